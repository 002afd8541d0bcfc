import PyProof.Rows.All
import Wide.All
import OpenK.AllK
import Wide.FinOn
import HandS.ForMost
import HandS.Property
import HandS.Exc
import HandS.Defaults
import HandS.HeadHook1
import HandS.HeadHook2
import HandS.Head0
import HandS.Head1
import HandS.Head2
import HandS.HeadEnd
import HandS.IsInst
import HandS.Deep
import HandS.Wide
import HandS.NoneIn
import HandS.SortRule
import HandS.Flt
import PySem.Challenge.RW_sandthreads_k95_whole_bare_and_turned
set_option Elab.async false
set_option linter.all false
set_option maxRecDepth 100000
set_option maxHeartbeats 0
section
/-! Plain arithmetic: frames, least steps, the first mirror. -/
namespace Sd
abbrev P2 := Int × Int
structure Mir where
  x : Int
  y : Int
  ly : Bool
  deriving DecidableEq
structure Fr where
  A : Int
  D : Int
  g : Int
  f : Int
  goals : List (P2 × Mir)

/-! ### the divisor and the factor -/
theorem emod_eq' (r r' : Int) : r - r / r' * r' = r % r' := by
  have := Int.mul_ediv_add_emod r r'
  rw [Int.mul_comm] at this
  omega
def gcdGo (r f r' f' : Int) : Int × Int :=
  if h : 0 < r' then gcdGo r' f' (r - r / r' * r') (f - r / r' * f') else (r, f)
termination_by r'.toNat
decreasing_by
  rw [emod_eq']
  have h1 := Int.emod_nonneg r (b := r') (by omega)
  have h2 := Int.emod_lt_of_pos r h
  omega
theorem gcdGo_pos {r f r' f' : Int} (h : 0 < r') : gcdGo r f r' f' = gcdGo r' f' (r - r / r' * r') (f - r / r' * f') := by
  rw [gcdGo, dif_pos h]
theorem gcdGo_zero {r f r' f' : Int} (h : ¬ 0 < r') : gcdGo r f r' f' = (r, f) := by
  rw [gcdGo, dif_neg h]
/-- what the loop keeps -/
structure GInv (a b r f r' f' : Int) : Prop where
  r0 : 0 < r
  r1 : 0 ≤ r'
  d0 : b ∣ a * f - r
  d1 : b ∣ a * f' - r'
  q0 : ∀ d : Int, d ∣ r → d ∣ r' → d ∣ a ∧ d ∣ b
  s0 : f.natAbs ≤ b.natAbs
  s1 : r.natAbs * f'.natAbs + r'.natAbs * f.natAbs ≤ b.natAbs
theorem GInv.start {a b : Int} (ha : 0 < a) (hb : 0 < b) : GInv a b a 1 b 0 := by
  refine ⟨ha, by omega, ⟨0, by omega⟩, ⟨-1, by omega⟩, fun d h1 h2 => ⟨h1, h2⟩, by omega, ?_⟩
  simp
theorem GInv.turn {a b r f r' f' : Int} (I : GInv a b r f r' f') (h : 0 < r') : GInv a b r' f' (r - r / r' * r') (f - r / r' * f') := by
  have e := emod_eq' r r'
  have h1 := Int.emod_nonneg r (b := r') (by omega)
  have h2 := Int.emod_lt_of_pos r h
  have hq : 0 ≤ r / r' := Int.ediv_nonneg (Int.le_of_lt I.r0) (Int.le_of_lt h)
  generalize hk : r / r' = k at *
  obtain ⟨r0, r1, d0, d1, q0, s0, s1⟩ := I
  have hr : 1 ≤ r.natAbs := by omega
  have hf' : f'.natAbs ≤ b.natAbs := by
    have : 1 * f'.natAbs ≤ r.natAbs * f'.natAbs := Nat.mul_le_mul_right _ hr
    omega
  refine ⟨h, by omega, d1, ?_, ?_, hf', ?_⟩
  · obtain ⟨c0, e0⟩ := d0
    obtain ⟨c1, e1⟩ := d1
    refine ⟨c0 - k * c1, ?_⟩
    have : a * (f - k * f') - (r - k * r') = (a * f - r) - k * (a * f' - r') := by
      rw [Int.mul_sub, Int.mul_sub, ← Int.mul_assoc, ← Int.mul_assoc, Int.mul_comm a k]; omega
    rw [this, e0, e1, Int.mul_sub, ← Int.mul_assoc, ← Int.mul_assoc, Int.mul_comm k b]
  · intro d h3 h4
    have h5 : d ∣ r := by
      have : r = (r - k * r') + k * r' := by omega
      rw [this]
      exact Int.dvd_add h4 (Int.dvd_trans h3 (Int.dvd_mul_left _ _))
    exact q0 d h5 h3
  · -- sizes
    have e1 : (r - k * r').natAbs = (r - k * r').toNat := by omega
    have hk' : (k.natAbs : Int) = k := by omega
    have b1 : (f - k * f').natAbs ≤ f.natAbs + k.natAbs * f'.natAbs := by
      have := Int.natAbs_sub_le f (k * f')
      rw [Int.natAbs_mul] at this
      exact this
    have b2 : r'.natAbs * (f - k * f').natAbs ≤ r'.natAbs * f.natAbs + r'.natAbs * k.natAbs * f'.natAbs := by
      have := Nat.mul_le_mul_left r'.natAbs b1
      rw [Nat.mul_add, ← Nat.mul_assoc] at this
      exact this
    have b3 : r.natAbs = (r - k * r').natAbs + r'.natAbs * k.natAbs := by
      have hz : (r'.natAbs * k.natAbs : Int) = r' * k := by
        rw [hk', show (r'.natAbs : Int) = r' by omega]
      have hc : r' * k = k * r' := Int.mul_comm _ _
      have : ((r.natAbs : Nat) : Int) = ((r - k * r').natAbs + r'.natAbs * k.natAbs : Nat) := by
        rw [Int.natCast_add, Int.natCast_mul, hz]
        omega
      exact Int.ofNat.inj this
    have b4 : r.natAbs * f'.natAbs = (r - k * r').natAbs * f'.natAbs + r'.natAbs * k.natAbs * f'.natAbs := by
      conv => lhs; rw [b3]
      rw [Nat.add_mul]
    omega
/-- the frame's numbers -/
structure GOk (a b g f : Int) : Prop where
  g0 : 0 < g
  ga : g ∣ a
  gb : g ∣ b
  bez : b ∣ a * f - g
  sz : f.natAbs ≤ b.natAbs
theorem gcdGo_ok {a b : Int} : ∀ (n : Nat) {r f r' f' : Int}, r'.toNat ≤ n → GInv a b r f r' f' → GOk a b (gcdGo r f r' f').1 (gcdGo r f r' f').2 := by
  intro n
  induction n with
  | zero =>
    intro r f r' f' hn I
    have h : ¬ 0 < r' := by omega
    rw [gcdGo_zero h]
    have e : r' = 0 := by have := I.r1; omega
    subst e
    have := I.q0 r (Int.dvd_refl _) ⟨0, by omega⟩
    exact ⟨I.r0, this.1, this.2, I.d0, I.s0⟩
  | succ n ih =>
    intro r f r' f' hn I
    by_cases h : 0 < r'
    · rw [gcdGo_pos h]
      refine ih ?_ (I.turn h)
      have h2 := Int.emod_lt_of_pos r h
      have h1 := Int.emod_nonneg r (b := r') (by omega)
      rw [emod_eq']
      omega
    · rw [gcdGo_zero h]
      have e : r' = 0 := by have := I.r1; omega
      subst e
      have := I.q0 r (Int.dvd_refl _) ⟨0, by omega⟩
      exact ⟨I.r0, this.1, this.2, I.d0, I.s0⟩
def gcdf (a b : Int) : Int × Int := gcdGo a 1 b 0
theorem gcdf_ok {a b : Int} (ha : 0 < a) (hb : 0 < b) : GOk a b (gcdf a b).1 (gcdf a b).2 := gcdGo_ok b.toNat (Nat.le_refl _) (.start ha hb)
/-- any common divisor divides it -/
theorem GOk.great {a b g f d : Int} (h : GOk a b g f) (ha : d ∣ a) (hb : d ∣ b) : d ∣ g := by
  have h1 : d ∣ a * f := Int.dvd_trans ha (Int.dvd_mul_right _ _)
  have h2 : d ∣ a * f - g := Int.dvd_trans hb h.bez
  have : g = a * f - (a * f - g) := by omega
  rw [this]
  exact Int.dvd_sub h1 h2
theorem dvd_anti {a b : Int} (ha : 0 < a) (hb : 0 < b) (h1 : a ∣ b) (h2 : b ∣ a) : a = b := by
  have := Int.le_of_dvd hb h1
  have := Int.le_of_dvd ha h2
  omega

/-! ### least steps -/
structure FrOk (F : Fr) : Prop where
  A0 : 0 < F.A
  D0 : 0 < F.D
  ok : GOk F.A F.D F.g F.f
def Fr.L (F : Fr) : Int := F.A * (F.D / F.g)
def shift (p : P2) (n : Int) : P2 := (p.1 + n, p.2 + n)
/-- equal by the remainders -/
structure Cg (F : Fr) (p q : P2) : Prop where
  a : F.A ∣ p.1 - q.1
  d : F.D ∣ p.2 - q.2
theorem Cg.refl {F : Fr} (p : P2) : Cg F p p := ⟨⟨0, by omega⟩, ⟨0, by omega⟩⟩
theorem dvd_neg' {a b c : Int} (h : a ∣ b) (e : c = -b) : a ∣ c := by
  rw [e]; exact Int.dvd_neg.mpr h
theorem dvd_add' {a b c d : Int} (h : a ∣ b) (h' : a ∣ c) (e : d = b + c) : a ∣ d := by
  rw [e]; exact Int.dvd_add h h'
theorem dvd_sub' {a b c d : Int} (h : a ∣ b) (h' : a ∣ c) (e : d = b - c) : a ∣ d := by
  rw [e]; exact Int.dvd_sub h h'
theorem Cg.symm {F : Fr} {p q : P2} (h : Cg F p q) : Cg F q p := ⟨dvd_neg' h.a (by omega), dvd_neg' h.d (by omega)⟩
theorem Cg.trans {F : Fr} {p q r : P2} (h : Cg F p q) (k : Cg F q r) : Cg F p r := ⟨dvd_add' h.a k.a (by omega), dvd_add' h.d k.d (by omega)⟩
theorem Cg.shift {F : Fr} {p q : P2} (h : Cg F p q) (n : Int) : Cg F (shift p n) (shift q n) := by
  refine ⟨?_, ?_⟩
  · have := h.a
    simp only [Sd.shift]
    rwa [show p.1 + n - (q.1 + n) = p.1 - q.1 by omega]
  · have := h.d
    simp only [Sd.shift]
    rwa [show p.2 + n - (q.2 + n) = p.2 - q.2 by omega]
theorem Cg.unshift {F : Fr} {p q : P2} {n : Int} (h : Cg F (Sd.shift p n) (Sd.shift q n)) : Cg F p q := by
  have := h.shift (-n)
  simp only [Sd.shift] at this
  rwa [show ((p.1 + n + -n, p.2 + n + -n) : P2) = p by ext <;> simp <;> omega, show ((q.1 + n + -n, q.2 + n + -n) : P2) = q by ext <;> simp <;> omega] at this
theorem shift_shift (p : P2) (a b : Int) : shift (shift p a) b = shift p (a + b) := by
  simp only [shift]; ext <;> simp <;> omega
theorem shift_zero (p : P2) : shift p 0 = p := by
  simp only [shift]; ext <;> simp
def stepsTo (F : Fr) (p q : P2) : Option Int :=
  if ((q.2 - p.2) % F.D - (q.1 - p.1) % F.A) % F.g ≠ 0 then none
  else some ((q.1 - p.1) % F.A + F.A * (((q.2 - p.2) % F.D - (q.1 - p.1) % F.A) / F.g * F.f % (F.D / F.g)))
section
variable {F : Fr} (O : FrOk F)
include O
theorem FrOk.dg : F.D = F.g * (F.D / F.g) := (Int.mul_ediv_cancel' O.ok.gb).symm
theorem FrOk.dgpos : 0 < F.D / F.g := by
  have h := O.dg
  have hD := O.D0
  have hg := O.ok.g0
  rcases Int.lt_trichotomy 0 (F.D / F.g) with h1 | h1 | h1
  · exact h1
  · rw [← h1] at h; omega
  · have : F.g * (F.D / F.g) < 0 := Int.mul_neg_of_pos_of_neg hg h1
    omega
theorem FrOk.Lpos : 0 < F.L := Int.mul_pos O.A0 O.dgpos
theorem FrOk.AL : F.A ∣ F.L := ⟨_, rfl⟩
theorem FrOk.DL : F.D ∣ F.L := by
  obtain ⟨c, hc⟩ := O.ok.ga
  refine ⟨c, ?_⟩
  unfold Fr.L
  conv => rhs; rw [O.dg]
  rw [hc, Int.mul_assoc, Int.mul_assoc, Int.mul_comm c]
/-- both remainders 0: a multiple of L -/
theorem FrOk.Ldvd {m : Int} (ha : F.A ∣ m) (hd : F.D ∣ m) : F.L ∣ m := by
  obtain ⟨c, rfl⟩ := ha
  have h1 : F.D ∣ F.g * c := by
    have h2 : F.D ∣ (F.A * F.f - F.g) * c := Int.dvd_trans O.ok.bez (Int.dvd_mul_right _ _)
    have h3 : F.D ∣ F.f * (F.A * c) := Int.dvd_trans hd (Int.dvd_mul_left _ _)
    refine dvd_sub' h3 h2 ?_
    rw [Int.sub_mul, Int.mul_comm F.A F.f, Int.mul_assoc F.f]
    omega
  rw [O.dg] at h1
  have h4 : F.D / F.g ∣ c := Int.dvd_of_mul_dvd_mul_left (by have := O.ok.g0; omega) h1
  exact Int.mul_dvd_mul (Int.dvd_refl _) h4
theorem stepsTo_spec {p q : P2} {n : Int} : stepsTo F p q = some n ↔ (0 ≤ n ∧ n < F.L ∧ Cg F (shift p n) q) := by
  have main : ∀ n, stepsTo F p q = some n → (0 ≤ n ∧ n < F.L ∧ Cg F (shift p n) q) := by
    intro n h
    unfold stepsTo at h
    generalize ha : (q.1 - p.1) % F.A = a at h
    generalize hb : (q.2 - p.2) % F.D = b at h
    have a0 : 0 ≤ a := by rw [← ha]; exact Int.emod_nonneg _ (by have := O.A0; omega)
    have a1 : a < F.A := by rw [← ha]; exact Int.emod_lt_of_pos _ O.A0
    have da : F.A ∣ (q.1 - p.1) - a := by rw [← ha]; exact Int.dvd_self_sub_emod
    have db : F.D ∣ (q.2 - p.2) - b := by rw [← hb]; exact Int.dvd_self_sub_emod
    by_cases hg : (b - a) % F.g ≠ 0
    · rw [if_pos hg] at h; cases h
    · rw [if_neg hg] at h
      have hg' : F.g ∣ b - a := Int.dvd_of_emod_eq_zero (by omega)
      obtain ⟨c, hc⟩ := hg'
      have hcc : (b - a) / F.g = c := by rw [hc]; exact Int.mul_ediv_cancel_left _ (by have := O.ok.g0; omega)
      rw [hcc] at h
      have e := Option.some.inj h
      generalize hr : c * F.f % (F.D / F.g) = r at e
      have r0 : 0 ≤ r := by rw [← hr]; exact Int.emod_nonneg _ (by have := O.dgpos; omega)
      have r1 : r < F.D / F.g := by rw [← hr]; exact Int.emod_lt_of_pos _ O.dgpos
      have dr : F.D / F.g ∣ c * F.f - r := by rw [← hr]; exact Int.dvd_self_sub_emod
      have z : 0 ≤ F.A * r := Int.mul_nonneg (by have := O.A0; omega) r0
      have z2 : F.A * r ≤ F.A * (F.D / F.g - 1) := Int.mul_le_mul_of_nonneg_left (by omega) (by have := O.A0; omega)
      have z3 : F.A * (F.D / F.g - 1) = F.L - F.A := by unfold Fr.L; rw [Int.mul_sub]; omega
      refine ⟨by omega, by omega, ?_, ?_⟩
      · simp only [shift]
        have t1 : F.A ∣ F.A * r := ⟨r, rfl⟩
        refine dvd_sub' t1 da ?_
        omega
      · simp only [shift]
        -- A * r ≡ b - a
        have t1 : F.D ∣ F.A * (c * F.f - r) := by
          have : F.L ∣ F.A * (c * F.f - r) := Int.mul_dvd_mul (Int.dvd_refl _) dr
          exact Int.dvd_trans O.DL this
        have t2 : F.D ∣ c * (F.A * F.f - F.g) := Int.dvd_trans O.ok.bez (Int.dvd_mul_left _ _)
        have t3 : F.A * (c * F.f - r) = c * (F.A * F.f) - F.A * r := by
          rw [Int.mul_sub, ← Int.mul_assoc, ← Int.mul_assoc, Int.mul_comm F.A c]
        have t4 : c * (F.A * F.f - F.g) = c * (F.A * F.f) - F.g * c := by rw [Int.mul_sub, Int.mul_comm c F.g]
        rw [t3] at t1
        rw [t4] at t2
        have t5 : F.D ∣ (F.A * r - F.g * c) := dvd_sub' t2 t1 (by omega)
        refine dvd_sub' t5 db ?_
        omega
  refine ⟨main n, fun ⟨n0, n1, hc⟩ => ?_⟩
  cases h : stepsTo F p q with
  | some m =>
    obtain ⟨m0, m1, hm⟩ := main m h
    have : F.L ∣ n - m := by
      refine O.Ldvd ?_ ?_
      · refine dvd_sub' hc.a hm.a ?_
        simp only [shift]; omega
      · refine dvd_sub' hc.d hm.d ?_
        simp only [shift]; omega
    obtain ⟨k, hk⟩ := this
    have hL := O.Lpos
    have : k = 0 := by
      rcases Int.lt_trichotomy k 0 with h1 | h1 | h1
      · have : F.L * k ≤ F.L * (-1) := Int.mul_le_mul_of_nonneg_left (by omega) (by omega)
        omega
      · exact h1
      · have : F.L * 1 ≤ F.L * k := Int.mul_le_mul_of_nonneg_left (by omega) (by omega)
        omega
    subst this
    have : n = m := by omega
    rw [this]
  | none =>
    exfalso
    unfold stepsTo at h
    have da : F.A ∣ (q.1 - p.1) - (q.1 - p.1) % F.A := Int.dvd_self_sub_emod
    have db : F.D ∣ (q.2 - p.2) - (q.2 - p.2) % F.D := Int.dvd_self_sub_emod
    generalize (q.1 - p.1) % F.A = a at h da
    generalize (q.2 - p.2) % F.D = b at h db
    by_cases hg : (b - a) % F.g ≠ 0
    · apply hg
      apply Int.emod_eq_zero_of_dvd
      have t1 : F.g ∣ a - n := by
        have := hc.a
        simp only [shift] at this
        exact Int.dvd_trans O.ok.ga (dvd_neg' (dvd_add' this da rfl) (by omega))
      have t2 : F.g ∣ b - n := by
        have := hc.d
        simp only [shift] at this
        exact Int.dvd_trans O.ok.gb (dvd_neg' (dvd_add' this db rfl) (by omega))
      exact dvd_sub' t2 t1 (by omega)
    · rw [if_neg hg] at h; cases h
/-- some number of steps leads there: the least one is found -/
theorem stepsTo_some {p q : P2} {n : Int} (h : Cg F (shift p n) q) : ∃ m, stepsTo F p q = some m := by
  refine ⟨n % F.L, (stepsTo_spec O).mpr ⟨Int.emod_nonneg _ (by have := O.Lpos; omega), Int.emod_lt_of_pos _ O.Lpos, ?_⟩⟩
  have hd : F.L ∣ n - n % F.L := Int.dvd_self_sub_emod
  generalize n % F.L = m at hd
  refine ⟨?_, ?_⟩
  · have := h.a
    simp only [shift] at this ⊢
    exact dvd_sub' this (Int.dvd_trans O.AL hd) (by omega)
  · have := h.d
    simp only [shift] at this ⊢
    exact dvd_sub' this (Int.dvd_trans O.DL hd) (by omega)
theorem stepsTo_cg {p p' q q' : P2} (h : Cg F p p') (k : Cg F q q') : stepsTo F p q = stepsTo F p' q' := by
  have main : ∀ {p p' q q' : P2}, Cg F p p' → Cg F q q' → ∀ n, stepsTo F p q = some n → stepsTo F p' q' = some n := by
    intro p p' q q' h k n e
    obtain ⟨n0, n1, c⟩ := (stepsTo_spec O).mp e
    exact (stepsTo_spec O).mpr ⟨n0, n1, ((h.shift n).symm.trans c).trans k⟩
  cases e : stepsTo F p q with
  | some n => exact (main h k n e).symm
  | none =>
    cases e' : stepsTo F p' q' with
    | none => rfl
    | some n => rw [main h.symm k.symm n e'] at e; cases e
end

/-! ### the first mirror -/
def better (best : Option (Int × Mir)) (s : Option Int) (m : Mir) : Option (Int × Mir) :=
  match s with
  | none => best
  | some n => match best with
    | none => some (n, m)
    | some (b, m') => if n < b then some (n, m) else some (b, m')
def toMirrorGo (F : Fr) (p : P2) (best : Option (Int × Mir)) (l : List (P2 × Mir)) : Option (Int × Mir) :=
  l.foldl (fun b q => better b (stepsTo F p q.1) q.2) best
def toMirror (F : Fr) (p : P2) : Option (Int × Mir) := toMirrorGo F p none F.goals
def Hit (F : Fr) (l : List (P2 × Mir)) (p : P2) (n : Int) (m : Mir) : Prop := ∃ q, (q, m) ∈ l ∧ stepsTo F p q = some n
theorem toMirrorGo_spec (F : Fr) (p : P2) : ∀ (l done : List (P2 × Mir)) (best : Option (Int × Mir)),
    (match best with
      | none => ∀ n m, ¬ Hit F done p n m
      | some (n, m) => Hit F done p n m ∧ ∀ n' m', Hit F done p n' m' → n ≤ n') →
    (match toMirrorGo F p best l with
      | none => ∀ n m, ¬ Hit F (done ++ l) p n m
      | some (n, m) => Hit F (done ++ l) p n m ∧ ∀ n' m', Hit F (done ++ l) p n' m' → n ≤ n') := by
  intro l
  induction l with
  | nil => intro done best h; rw [List.append_nil]; exact h
  | cons q l ih =>
    intro done best h
    have e : done ++ q :: l = (done ++ [q]) ++ l := by rw [List.append_assoc]; rfl
    rw [e]
    refine ih (done ++ [q]) (better best (stepsTo F p q.1) q.2) ?_
    have split : ∀ n m, Hit F (done ++ [q]) p n m ↔ (Hit F done p n m ∨ (m = q.2 ∧ stepsTo F p q.1 = some n)) := by
      intro n m
      constructor
      · rintro ⟨r, hr, hs⟩
        rcases List.mem_append.mp hr with h1 | h1
        · exact .inl ⟨r, h1, hs⟩
        · have := List.mem_singleton.mp h1
          cases this
          exact .inr ⟨rfl, hs⟩
      · rintro (⟨r, hr, hs⟩ | ⟨rfl, hs⟩)
        · exact ⟨r, List.mem_append_left _ hr, hs⟩
        · exact ⟨q.1, List.mem_append_right _ (List.mem_singleton.mpr rfl), hs⟩
    cases hs : stepsTo F p q.1 with
    | none =>
      cases best with
      | none =>
        show ∀ n m, ¬ Hit F (done ++ [q]) p n m
        intro n m hh
        rcases (split n m).mp hh with h1 | ⟨_, h1⟩
        · exact h n m h1
        · rw [hs] at h1; cases h1
      | some b =>
        obtain ⟨n, m⟩ := b
        show Hit F (done ++ [q]) p n m ∧ _
        refine ⟨(split n m).mpr (.inl h.1), fun n' m' hh => ?_⟩
        rcases (split n' m').mp hh with h1 | ⟨_, h1⟩
        · exact h.2 n' m' h1
        · rw [hs] at h1; cases h1
    | some k =>
      cases best with
      | none =>
        show Hit F (done ++ [q]) p k q.2 ∧ _
        refine ⟨(split k q.2).mpr (.inr ⟨rfl, hs⟩), fun n' m' hh => ?_⟩
        rcases (split n' m').mp hh with h1 | ⟨_, h1⟩
        · exact absurd h1 (h n' m')
        · rw [hs] at h1; cases h1; omega
      | some b =>
        obtain ⟨n, m⟩ := b
        by_cases c : k < n
        · have e2 : better (some (n, m)) (some k) q.2 = some (k, q.2) := by simp [better, c]
          rw [e2]
          show Hit F (done ++ [q]) p k q.2 ∧ _
          refine ⟨(split k q.2).mpr (.inr ⟨rfl, hs⟩), fun n' m' hh => ?_⟩
          rcases (split n' m').mp hh with h1 | ⟨_, h1⟩
          · have := h.2 n' m' h1; omega
          · rw [hs] at h1; cases h1; omega
        · have e2 : better (some (n, m)) (some k) q.2 = some (n, m) := by simp [better, c]
          rw [e2]
          show Hit F (done ++ [q]) p n m ∧ _
          refine ⟨(split n m).mpr (.inl h.1), fun n' m' hh => ?_⟩
          rcases (split n' m').mp hh with h1 | ⟨_, h1⟩
          · exact h.2 n' m' h1
          · rw [hs] at h1; cases h1; omega
theorem toMirror_some {F : Fr} {p : P2} {n : Int} {m : Mir} (h : toMirror F p = some (n, m)) : Hit F F.goals p n m ∧ ∀ n' m', Hit F F.goals p n' m' → n ≤ n' := by
  have := toMirrorGo_spec F p F.goals [] none (fun n m ⟨_, h, _⟩ => by cases h)
  unfold toMirror at h
  rw [h] at this
  exact this
theorem toMirror_none {F : Fr} {p : P2} (h : toMirror F p = none) (n : Int) (m : Mir) : ¬ Hit F F.goals p n m := by
  have := toMirrorGo_spec F p F.goals [] none (fun n m ⟨_, h, _⟩ => by cases h)
  unfold toMirror at h
  rw [h] at this
  exact this n m
theorem toMirror_get {F : Fr} {p : P2} {n : Int} {m : Mir} (h : Hit F F.goals p n m) : ∃ n' m', toMirror F p = some (n', m') := by
  cases e : toMirror F p with
  | none => exact absurd h (toMirror_none e n m)
  | some b => exact ⟨b.1, b.2, rfl⟩
end Sd
end
section
/-! The walk along a thread as a map; its reversal; the legs. -/
namespace Sd
theorem pigeon {α β : Type} (S : α → β → Prop) : ∀ (l : List α) (l' : List β), (∀ a ∈ l, ∃ b ∈ l', S a b) → l.Pairwise (fun a a' => ¬ ∃ b, S a b ∧ S a' b) → l.length ≤ l'.length := by
  intro l
  induction l with
  | nil => intro l' _ _; exact Nat.zero_le _
  | cons a l ih =>
    intro l' h hp
    obtain ⟨b, hb, hS⟩ := h a (List.mem_cons_self ..)
    obtain ⟨s, t, rfl⟩ := List.append_of_mem hb
    obtain ⟨hp1, hp2⟩ := List.pairwise_cons.mp hp
    have := ih (s ++ t) (fun a' ha' => by
      obtain ⟨b', hb', hS'⟩ := h a' (List.mem_cons_of_mem _ ha')
      refine ⟨b', ?_, hS'⟩
      rcases List.mem_append.mp hb' with h1 | h1
      · exact List.mem_append_left _ h1
      · rcases List.mem_cons.mp h1 with h2 | h2
        · subst h2
          exact absurd ⟨b', hS, hS'⟩ (hp1 a' ha')
        · exact List.mem_append_right _ h2) hp2
    simp only [List.length_append, List.length_cons] at this ⊢
    omega
/-- reflection at a mirror -/
def rf (ly : Bool) (p : P2) : P2 := if ly then (p.1, -p.2) else (-p.1, p.2)
def neg (p : P2) : P2 := (-p.1, -p.2)
def rev (p : P2) : P2 := (1 - p.1, 1 - p.2)
theorem rf_rf (ly : Bool) (p : P2) : rf ly (rf ly p) = p := by
  cases ly <;> simp [rf]
theorem rf_neg_rf (ly : Bool) (p : P2) : rf ly (neg (rf ly p)) = neg p := by
  cases ly <;> simp [rf, neg]
theorem neg_neg (p : P2) : neg (neg p) = p := by simp [neg]
theorem Cg.rf {F : Fr} {p q : P2} (ly : Bool) (h : Cg F p q) : Cg F (rf ly p) (Sd.rf ly q) := by
  cases ly
  · exact ⟨dvd_neg' h.a (by simp only [Sd.rf]; simp; omega), h.d⟩
  · exact ⟨h.a, dvd_neg' h.d (by simp only [Sd.rf]; simp; omega)⟩
theorem Cg.neg {F : Fr} {p q : P2} (h : Cg F p q) : Cg F (neg p) (Sd.neg q) := ⟨dvd_neg' h.a (by simp only [Sd.neg]; omega), dvd_neg' h.d (by simp only [Sd.neg]; omega)⟩
theorem Cg.rev {F : Fr} {p q : P2} (h : Cg F p q) : Cg F (rev p) (Sd.rev q) := ⟨dvd_neg' h.a (by simp only [Sd.rev]; omega), dvd_neg' h.d (by simp only [Sd.rev]; omega)⟩
theorem rev_rev (p : P2) : rev (rev p) = p := by
  simp only [rev]; ext <;> simp <;> omega
structure FrS (F : Fr) : Prop extends FrOk F where
  clo : ∀ q m ly, (q, m) ∈ F.goals → (rf ly q, m) ∈ F.goals
  uni : ∀ q m q' m', (q, m) ∈ F.goals → (q', m') ∈ F.goals → Cg F q q' → m = m'
theorem rf_rf_neg (q : P2) : rf true (rf false q) = neg q := by simp [rf, neg]
theorem FrS.clon {F : Fr} (S : FrS F) {q : P2} {m : Mir} (h : (q, m) ∈ F.goals) : (neg q, m) ∈ F.goals := by
  rw [← rf_rf_neg]
  exact S.clo _ _ _ (S.clo _ _ _ h)
def At (F : Fr) (p : P2) (m : Mir) : Prop := ∃ q, (q, m) ∈ F.goals ∧ Cg F p q
theorem At.cg {F : Fr} {p p' : P2} {m : Mir} (h : At F p m) (c : Cg F p' p) : At F p' m := by
  obtain ⟨q, hq, hc⟩ := h
  exact ⟨q, hq, c.trans hc⟩
def refl (F : Fr) (p : P2) : P2 := match toMirror F p with
  | some (n, m) => if n = 0 then rf m.ly p else p
  | none => p
def nx (F : Fr) (p : P2) : P2 := shift (refl F p) 1
def it (F : Fr) : Nat → P2 → P2
  | 0, p => p
  | n + 1, p => it F n (nx F p)
section
variable {F : Fr}
theorem it_succ (n : Nat) : ∀ p, it F (n + 1) p = nx F (it F n p) := by
  induction n with
  | zero => intro p; rfl
  | succ n ih => intro p; exact ih (nx F p)
theorem it_add (m n : Nat) : ∀ p, it F (m + n) p = it F n (it F m p) := by
  induction m with
  | zero => intro p; rw [Nat.zero_add]; rfl
  | succ m ih => intro p; rw [Nat.succ_add]; exact ih (nx F p)
variable (S : FrS F)
include S
theorem At.uni {p : P2} {m m' : Mir} (h : At F p m) (h' : At F p m') : m = m' := by
  obtain ⟨q, hq, hc⟩ := h
  obtain ⟨q', hq', hc'⟩ := h'
  exact S.uni _ _ _ _ hq hq' (hc.symm.trans hc')
/-- a hit after n steps is a mirror there -/
theorem hit_at {p : P2} {n : Int} {m : Mir} (h : Hit F F.goals p n m) : At F (shift p n) m := by
  obtain ⟨q, hq, hs⟩ := h
  exact ⟨q, hq, ((stepsTo_spec S.toFrOk).mp hs).2.2⟩
theorem hit_bd {p : P2} {n : Int} {m : Mir} (h : Hit F F.goals p n m) : 0 ≤ n ∧ n < F.L := by
  obtain ⟨q, hq, hs⟩ := h
  exact ⟨((stepsTo_spec S.toFrOk).mp hs).1, ((stepsTo_spec S.toFrOk).mp hs).2.1⟩
theorem at_hit {p : P2} {n : Int} {m : Mir} (h : At F (shift p n) m) (h0 : 0 ≤ n) (h1 : n < F.L) : Hit F F.goals p n m := by
  obtain ⟨q, hq, hc⟩ := h
  exact ⟨q, hq, (stepsTo_spec S.toFrOk).mpr ⟨h0, h1, hc⟩⟩
theorem at_some {p : P2} {n : Int} {m : Mir} (h : At F (shift p n) m) : ∃ n' m', toMirror F p = some (n', m') := by
  obtain ⟨q, hq, hc⟩ := h
  obtain ⟨k, hk⟩ := stepsTo_some S.toFrOk hc
  exact toMirror_get ⟨q, hq, hk⟩
theorem toMirror_cg {p p' : P2} (h : Cg F p p') : toMirror F p = toMirror F p' := by
  unfold toMirror toMirrorGo
  have : (fun b (q : P2 × Mir) => better b (stepsTo F p q.1) q.2) = fun b q => better b (stepsTo F p' q.1) q.2 := by
    funext b q
    rw [stepsTo_cg S.toFrOk h (Cg.refl q.1)]
  rw [this]
theorem refl_at {p : P2} {m : Mir} (h : At F p m) : refl F p = rf m.ly p := by
  have h0 : At F (shift p 0) m := by rw [shift_zero]; exact h
  have hh := at_hit S h0 (Int.le_refl 0) S.toFrOk.Lpos
  obtain ⟨n', m', e⟩ := toMirror_get hh
  obtain ⟨g1, g2⟩ := toMirror_some e
  have := g2 0 m hh
  have := (hit_bd S g1).1
  have en : n' = 0 := by omega
  subst en
  have := hit_at S g1
  rw [shift_zero] at this
  have em := At.uni S this h
  subst em
  unfold refl
  rw [e]
  simp
theorem refl_not {p : P2} (h : ∀ m, ¬ At F p m) : refl F p = p := by
  unfold refl
  cases e : toMirror F p with
  | none => rfl
  | some b =>
    obtain ⟨n, m⟩ := b
    show (if n = 0 then rf m.ly p else p) = p
    by_cases c : n = 0
    · subst c
      have := hit_at S (toMirror_some e).1
      rw [shift_zero] at this
      exact absurd this (h m)
    · rw [if_neg c]
theorem refl_cg {p p' : P2} (h : Cg F p p') : Cg F (refl F p) (refl F p') := by
  unfold refl
  rw [toMirror_cg S h]
  cases e : toMirror F p' with
  | none => exact h
  | some b =>
    obtain ⟨n, m⟩ := b
    show Cg F (if n = 0 then rf m.ly p else p) (if n = 0 then rf m.ly p' else p')
    by_cases c : n = 0
    · rw [if_pos c, if_pos c]; exact h.rf _
    · rw [if_neg c, if_neg c]; exact h
theorem nx_cg {p p' : P2} (h : Cg F p p') : Cg F (nx F p) (nx F p') := (refl_cg S h).shift 1
theorem it_cg (n : Nat) : ∀ {p p' : P2}, Cg F p p' → Cg F (it F n p) (it F n p') := by
  induction n with
  | zero => intro p p' h; exact h
  | succ n ih => intro p p' h; exact ih (nx_cg S h)
theorem refl_neg_refl (p : P2) : refl F (neg (refl F p)) = neg p := by
  by_cases h : ∃ m, At F p m
  · obtain ⟨m, h⟩ := h
    rw [refl_at S h]
    obtain ⟨q, hq, hc⟩ := h
    have : At F (neg (rf m.ly p)) m := ⟨neg (rf m.ly q), S.clon (S.clo _ _ _ hq), (hc.rf _).neg⟩
    rw [refl_at S this, rf_neg_rf]
  · have h' : ∀ m, ¬ At F p m := fun m hm => h ⟨m, hm⟩
    rw [refl_not S h']
    refine refl_not S fun m hm => ?_
    obtain ⟨q, hq, hc⟩ := hm
    have := hc.neg
    rw [neg_neg] at this
    exact h' m ⟨neg q, S.clon hq, this⟩
theorem nx_rev_nx (p : P2) : nx F (rev (nx F p)) = rev p := by
  have e : rev (nx F p) = neg (refl F p) := by
    simp only [nx, rev, shift, neg]; ext <;> simp <;> omega
  rw [e]
  unfold nx
  rw [refl_neg_refl S]
  simp only [shift, neg, rev]; ext <;> simp <;> omega
theorem it_rev_it (n : Nat) : ∀ p, it F n (rev (it F n p)) = rev p := by
  induction n with
  | zero => intro p; rfl
  | succ n ih =>
    intro p
    rw [it_succ n p]
    show it F n (nx F (rev (nx F (it F n p)))) = rev p
    rw [nx_rev_nx S, ih]
theorem nx_inj {p q : P2} (h : Cg F (nx F p) (nx F q)) : Cg F p q := by
  have := nx_cg S h.rev
  rw [nx_rev_nx S, nx_rev_nx S] at this
  have := this.rev
  rwa [rev_rev, rev_rev] at this
theorem it_inj (n : Nat) : ∀ {p q : P2}, Cg F (it F n p) (it F n q) → Cg F p q := by
  induction n with
  | zero => intro p q h; exact h
  | succ n ih => intro p q h; exact nx_inj S (ih h)
end
/-- q is met from p on -/
def Reach (F : Fr) (p q : P2) : Prop := ∃ n : Nat, Cg F (it F n p) q
/-- p comes again after n steps -/
def Ret (F : Fr) (p : P2) (n : Nat) : Prop := 0 < n ∧ Cg F (it F n p) p
section
variable {F : Fr} (S : FrS F)
include S
theorem Ret.mul {p : P2} {n : Nat} (h : Ret F p n) (k : Nat) : Cg F (it F (n * k) p) p := by
  induction k with
  | zero => rw [Nat.mul_zero]; exact Cg.refl p
  | succ k ih =>
    rw [Nat.mul_succ, it_add]
    exact (it_cg S n ih).trans h.2
theorem Ret.rev {p : P2} {n : Nat} (h : Ret F p n) : Ret F (rev p) n := by
  refine ⟨h.1, ?_⟩
  have h1 := it_rev_it S n p
  have h2 := it_cg S n (Cg.rev h.2)
  rw [h1] at h2
  exact h2.symm
theorem Ret.mod {p : P2} {n : Nat} (h : Ret F p n) (k : Nat) : Cg F (it F k p) (it F (k % n) p) := by
  have e : k = n * (k / n) + k % n := (Nat.div_add_mod k n).symm
  conv => lhs; rw [e]
  rw [it_add]
  exact it_cg S _ (Ret.mul S h _)
theorem Ret.back {p q : P2} {n : Nat} (h : Ret F p n) (r : Reach F p q) : Reach F q p := by
  obtain ⟨k, hk⟩ := r
  -- k steps to q, n * k - k further ones
  refine ⟨n * k - k, ?_⟩
  have hn : k ≤ n * k := Nat.le_mul_of_pos_left _ h.1
  have e : n * k = k + (n * k - k) := by omega
  have h1 := Ret.mul S h k
  rw [e, it_add] at h1
  exact (it_cg S _ hk.symm).trans h1
theorem Reach.trans {p q r : P2} (h : Reach F p q) (k : Reach F q r) : Reach F p r := by
  obtain ⟨a, ha⟩ := h
  obtain ⟨b, hb⟩ := k
  refine ⟨a + b, ?_⟩
  rw [it_add]
  exact (it_cg S b ha).trans hb
theorem Reach.revd {p q : P2} (h : Reach F p q) : Reach F (rev q) (rev p) := by
  obtain ⟨n, hn⟩ := h
  refine ⟨n, ?_⟩
  have h1 := it_rev_it S n p
  have h2 := it_cg S n (Cg.rev hn)
  rw [h1] at h2
  exact h2.symm
theorem Reach.cg {p q p' q' : P2} (h : Reach F p q) (a : Cg F p p') (b : Cg F q q') : Reach F p' q' := by
  obtain ⟨n, hn⟩ := h
  exact ⟨n, ((it_cg S n a.symm).trans hn).trans b⟩
/-- straight on, where no mirror stands -/
theorem straight {p : P2} : ∀ k : Nat, (∀ j : Nat, j < k → ∀ m, ¬ At F (shift p j) m) → it F k p = shift p k := by
  intro k
  induction k with
  | zero => intro _; rw [show ((0 : Nat) : Int) = 0 from rfl, shift_zero]; rfl
  | succ k ih =>
    intro h
    rw [it_succ, ih fun j hj => h j (by omega)]
    unfold nx
    rw [refl_not S (h k (by omega)), shift_shift]
    rfl
end
/-! ### legs -/
def behind (p : P2) (n : Int) (ly : Bool) : P2 := if ly then (p.1 + n, -p.2 - n) else (-p.1 - n, p.2 + n)
theorem behind_eq (p : P2) (n : Int) (ly : Bool) : behind p n ly = rf ly (shift p n) := by
  cases ly <;> simp [behind, rf, shift] <;> omega
def fromMirror (F : Fr) (p : P2) : Option (Int × Mir) := (toMirror F (p.1 + 1, p.2 + 1)).map fun b => (b.1 + 1, b.2)
abbrev Leg := Int × Option (P2 × Mir)
def legsGo (F : Fr) (start : P2) : Nat → P2 → Int → Mir → Option (List Leg)
  | 0, _, _, _ => none
  | k + 1, place, n, m => match fromMirror F (behind place n m.ly) with
    | none => none
    | some (n1, m1) => match stepsTo F ((behind place n m.ly).1 + 1, (behind place n m.ly).2 + 1) start with
      | none => (legsGo F start k (behind place n m.ly) n1 m1).map ((n, some (behind place n m.ly, m)) :: ·)
      | some b => if b < n1 then some [(n, some (behind place n m.ly, m)), (b, none)]
        else (legsGo F start k (behind place n m.ly) n1 m1).map ((n, some (behind place n m.ly, m)) :: ·)
def legs (F : Fr) (start : P2) : Option (List Leg) := match toMirror F start with
  | none => some [(F.A * F.D / F.g, none)]
  | some (n, m) => legsGo F start (F.goals.length + 1) start n m
/-- the legs from a place on: T steps were made ahead of the place, the steps from f on are the thread's -/
inductive LegsOk (F : Fr) (start : P2) : Nat → Nat → P2 → List Leg → Prop
  | last {T : Nat} {place : P2} {b : Nat} (h1 : ∀ j : Nat, 1 ≤ j → j ≤ b → Cg F (it F (T + j) start) (shift place j)) (h2 : Cg F (it F (T + b + 1) start) start)
      (h3 : ∀ i, 0 < i → i ≤ T + b → ¬ Cg F (it F i start) start) : LegsOk F start T 1 place [((b : Int), none)]
  | step {T f : Nat} {place place' : P2} {n : Nat} {m : Mir} {l : List Leg} (h1 : ∀ j : Nat, f ≤ j → j ≤ n → Cg F (it F (T + j) start) (shift place j)) (hf : f ≤ n)
      (h2 : LegsOk F start (T + n) 1 place' l) : LegsOk F start T f place (((n : Int), some (place', m)) :: l)
section
variable {F : Fr} (S : FrS F)
include S
theorem legsGo_ok {start : P2} : ∀ (k : Nat) (T f : Nat) (place : P2) (n : Nat) (m : Mir) (V : List P2),
    (∀ j : Nat, f ≤ j → j ≤ n → Cg F (it F (T + j) start) (shift place j)) → f ≤ n → At F (shift place n) m →
    (∀ i, 0 < i → i ≤ T + n → ¬ Cg F (it F i start) start) →
    (∀ v ∈ V, (∃ m, At F v m) ∧ ∃ t, t < T + n ∧ v = it F t start) → V.Pairwise (fun a b => ¬ Cg F a b) → F.goals.length + 1 ≤ k + V.length →
    ∃ l, legsGo F start k place n m = some l ∧ LegsOk F start T f place l ∧ l.length ≤ k + 1 := by
  intro k
  induction k with
  | zero =>
    intro T f place n m V _ _ _ _ hV hP hk
    exfalso
    have := pigeon (fun (v : P2) (q : P2 × Mir) => Cg F v q.1) V F.goals (fun v hv => by
      obtain ⟨⟨m, q, hq, hc⟩, _⟩ := hV v hv
      exact ⟨(q, m), hq, hc⟩) (hP.imp fun {a b} h ⟨q, h1, h2⟩ => h (h1.trans h2.symm))
    omega
  | succ k ih =>
    intro T f place n m V hT hf hm hno hV hP hk
    -- the state at the mirror
    have hs : Cg F (it F (T + n) start) (shift place n) := hT n hf (Nat.le_refl _)
    have hms : At F (it F (T + n) start) m := hm.cg hs
    generalize hpl : behind place n m.ly = place'
    have hpl' : place' = rf m.ly (shift place n) := by rw [← hpl, behind_eq]
    have h1 : Cg F (it F (T + n + 1) start) (shift place' 1) := by
      rw [it_succ]
      unfold nx
      rw [refl_at S hms, hpl']
      exact (hs.rf _).shift 1
    have hat' : At F place' m := by
      obtain ⟨q, hq, hc⟩ := hm
      exact ⟨rf m.ly q, S.clo _ _ _ hq, by rw [hpl']; exact hc.rf _⟩
    obtain ⟨n1, m1, e1⟩ : ∃ n1 m1, toMirror F (shift place' 1) = some (n1, m1) := by
      refine at_some S (n := F.L - 1) (m := m) ?_
      rw [shift_shift]
      refine hat'.cg ?_
      refine ⟨?_, ?_⟩
      · simp only [shift]
        have := S.toFrOk.AL
        rwa [show place'.1 + (1 + (F.L - 1)) - place'.1 = F.L by omega]
      · simp only [shift]
        have := S.toFrOk.DL
        rwa [show place'.2 + (1 + (F.L - 1)) - place'.2 = F.L by omega]
    obtain ⟨g1, g2⟩ := toMirror_some e1
    have b1 := hit_bd S g1
    have no1 : ∀ j : Nat, (j : Int) < n1 → ∀ m, ¬ At F (shift (shift place' 1) j) m := fun j hj m' hm' => by
      have := g2 j m' (at_hit S hm' (by omega) (by omega))
      omega
    have hgo : ∀ j : Nat, (j : Int) ≤ n1 → Cg F (it F (T + n + 1 + j) start) (shift place' (1 + j)) := fun j hj => by
      have := straight S (p := shift place' 1) j fun i hi => no1 i (by omega)
      rw [it_add, ← shift_shift, ← this]
      exact it_cg S j h1
    have hgo' : ∀ j : Nat, 1 ≤ j → (j : Int) ≤ n1 + 1 → Cg F (it F (T + n + j) start) (shift place' j) := fun j h1 h2 => by
      have := hgo (j - 1) (by omega)
      rwa [show T + n + 1 + (j - 1) = T + n + j by omega, show (1 : Int) + ((j - 1 : Nat) : Int) = (j : Int) by omega] at this
    have efm : fromMirror F place' = some (n1 + 1, m1) := by
      unfold fromMirror
      show (toMirror F (shift place' 1)).map _ = _
      rw [e1]; rfl
    -- going on
    have next : (∀ b, stepsTo F (shift place' 1) start = some b → ¬ b < n1 + 1) → ∃ l, (legsGo F start k place' (n1 + 1) m1).map (((n : Int), some (place', m)) :: ·) = some l ∧ LegsOk F start T f place l ∧ l.length ≤ k + 2 := by
      intro hb
      have hn1 : (n1 + 1) = ((n1 + 1).toNat : Int) := by omega
      have A1 : ∀ j : Nat, 1 ≤ j → j ≤ (n1 + 1).toNat → Cg F (it F (T + n + j) start) (shift place' j) := fun j h1 h2 => hgo' j h1 (by omega)
      have A2 : At F (shift place' ((n1 + 1).toNat : Int)) m1 := by
        rw [← hn1, Int.add_comm, ← shift_shift]
        exact hit_at S g1
      have A3 : ∀ i, 0 < i → i ≤ T + n + (n1 + 1).toNat → ¬ Cg F (it F i start) start := by
        intro i hi1 hi2
        by_cases c : i ≤ T + n
        · exact hno i hi1 c
        · intro hc
          have h2 := hgo' (i - (T + n)) (by omega) (by omega)
          rw [show T + n + (i - (T + n)) = i by omega] at h2
          have h3 : Cg F (shift (shift place' 1) ((i - (T + n) : Nat) - 1 : Int)) start := by
            rw [shift_shift, show (1 : Int) + ((i - (T + n) : Nat) - 1 : Int) = ((i - (T + n) : Nat) : Int) by omega]
            exact h2.symm.trans hc
          have := hb _ ((stepsTo_spec S.toFrOk).mpr ⟨by omega, by omega, h3⟩)
          omega
      have A4 : ∀ v ∈ V ++ [it F (T + n) start], (∃ m, At F v m) ∧ ∃ t, t < T + n + (n1 + 1).toNat ∧ v = it F t start := by
        intro v hv
        rcases List.mem_append.mp hv with h | h
        · obtain ⟨a, t, ht, e⟩ := hV v h
          exact ⟨a, t, by omega, e⟩
        · rw [List.mem_singleton.mp h]
          exact ⟨⟨m, hms⟩, T + n, by omega, rfl⟩
      have A5 : (V ++ [it F (T + n) start]).Pairwise (fun a b => ¬ Cg F a b) := by
        rw [List.pairwise_append]
        refine ⟨hP, List.pairwise_singleton .., fun a ha b hb => ?_⟩
        rw [List.mem_singleton.mp hb]
        obtain ⟨_, t, ht, e⟩ := hV a ha
        rw [e]
        intro hc
        have e2 : T + n = (T + n - t) + t := by omega
        rw [e2, it_add] at hc
        -- t steps behind both
        have hc2 : Cg F (it F t start) (it F t (it F (T + n - t) start)) := hc
        exact hno (T + n - t) (by omega) (by omega) (it_inj S t hc2).symm
      obtain ⟨l, el, hl, hlen⟩ := ih (T + n) 1 place' (n1 + 1).toNat m1 (V ++ [it F (T + n) start]) A1 (by omega) A2 A3 A4 A5 (by rw [List.length_append, List.length_singleton]; omega)
      rw [← hn1] at el
      refine ⟨((n : Int), some (place', m)) :: l, by rw [el]; rfl, .step hT hf hl, ?_⟩
      rw [List.length_cons]; omega
    show ∃ l, (match fromMirror F (behind place n m.ly) with | none => none | some (n1, m1) => _) = some l ∧ _
    rw [hpl, efm]
    show ∃ l, (match stepsTo F (shift place' 1) start with | none => _ | some b => _) = some l ∧ _
    cases eb : stepsTo F (shift place' 1) start with
    | none =>
      exact next (fun b h => by rw [eb] at h; cases h)
    | some b =>
      show ∃ l, (if b < n1 + 1 then _ else _) = some l ∧ _
      by_cases c : b < n1 + 1
      · rw [if_pos c]
        obtain ⟨c0, c1, c2⟩ := (stepsTo_spec S.toFrOk).mp eb
        have hb : b = (b.toNat : Int) := by omega
        refine ⟨_, rfl, .step hT hf ?_, by simp⟩
        rw [hb]
        refine .last (fun j h1 h2 => hgo' j h1 (by omega)) ?_ ?_
        · have h2 := hgo b.toNat (by omega)
          rw [show T + n + 1 + b.toNat = T + n + b.toNat + 1 by omega, ← shift_shift, ← hb] at h2
          exact h2.trans c2
        · intro i hi1 hi2
          by_cases c : i ≤ T + n
          · exact hno i hi1 c
          · intro hc
            have h2 := hgo' (i - (T + n)) (by omega) (by omega)
            rw [show T + n + (i - (T + n)) = i by omega] at h2
            have h3 : Cg F (shift (shift place' 1) ((i - (T + n) : Nat) - 1 : Int)) start := by
              rw [shift_shift, show (1 : Int) + ((i - (T + n) : Nat) - 1 : Int) = ((i - (T + n) : Nat) : Int) by omega]
              exact h2.symm.trans hc
            have := (stepsTo_spec S.toFrOk).mpr ⟨by omega, by omega, h3⟩
            rw [eb] at this
            have := Option.some.inj this
            omega
      · rw [if_neg c]
        exact next (fun b' h => by rw [eb] at h; cases h; exact c)
/-- with a mirror on the way: the legs tell the thread -/
theorem legs_ok {start : P2} {n : Int} {m : Mir} (h : toMirror F start = some (n, m)) : ∃ l, legs F start = some l ∧ LegsOk F start 0 0 start l ∧ l.length ≤ F.goals.length + 2 := by
  obtain ⟨g1, g2⟩ := toMirror_some h
  have b1 := hit_bd S g1
  have hn : n = (n.toNat : Int) := by omega
  have no1 : ∀ j : Nat, (j : Int) < n → ∀ m, ¬ At F (shift start j) m := fun j hj m' hm' => by
    have := g2 j m' (at_hit S hm' (by omega) (by omega))
    omega
  have hgo : ∀ j : Nat, (j : Int) ≤ n → Cg F (it F (0 + j) start) (shift start j) := fun j hj => by
    have := straight S (p := start) j fun i hi => no1 i (by omega)
    rw [Nat.zero_add, this]
    exact Cg.refl _
  have hat : At F (shift start (n.toNat : Int)) m := by rw [← hn]; exact hit_at S g1
  obtain ⟨l, el, hl, hlen⟩ := legsGo_ok S (start := start) (F.goals.length + 1) 0 0 start n.toNat m [] (fun j _ h2 => hgo j (by omega)) (Nat.zero_le _) hat (fun i h1 h2 hc => by
    have h3 := hgo i (by omega)
    rw [Nat.zero_add] at h3 h2
    have h4 := h3.symm.trans hc
    have h5 : stepsTo F start start = some (i : Int) := (stepsTo_spec S.toFrOk).mpr ⟨by omega, by omega, h4⟩
    have h6 : stepsTo F start start = some 0 := (stepsTo_spec S.toFrOk).mpr ⟨by omega, S.toFrOk.Lpos, by rw [shift_zero]; exact Cg.refl _⟩
    rw [h5] at h6
    have := Option.some.inj h6
    omega) (fun v hv => by cases hv) List.Pairwise.nil (by simp)
  refine ⟨l, ?_, hl, hlen⟩
  unfold legs
  rw [h]
  show legsGo F start (F.goals.length + 1) start n m = some l
  rw [hn]; exact el
end
def sumL (l : List Leg) : Int := (l.map (·.1)).sum
/-- the least return -/
structure Least (F : Fr) (p : P2) (n : Nat) : Prop where
  ret : Ret F p n
  min : ∀ i, 0 < i → i < n → ¬ Cg F (it F i p) p
theorem Least.uni {F : Fr} {p : P2} {a b : Nat} (h : Least F p a) (k : Least F p b) : a = b := by
  rcases Nat.lt_trichotomy a b with c | c | c
  · exact absurd h.ret.2 (k.min a h.ret.1 c)
  · exact c
  · exact absurd k.ret.2 (h.min b k.ret.1 c)
theorem LegsOk.sum {F : Fr} {start : P2} {T f : Nat} {place : P2} {l : List Leg} (h : LegsOk F start T f place l) : ∃ n : Nat, Least F start n ∧ sumL l + T + 1 = (n : Int) := by
  induction h with
  | @last T place b h1 h2 h3 =>
    refine ⟨T + b + 1, ⟨⟨by omega, h2⟩, fun i a c => h3 i a (by omega)⟩, ?_⟩
    simp only [sumL, List.map_cons, List.map_nil, List.sum_cons, List.sum_nil]
    omega
  | @step T f place place' n m l h1 hf h2 ih =>
    obtain ⟨k, hk, e⟩ := ih
    refine ⟨k, hk, ?_⟩
    simp only [sumL, List.map_cons, List.sum_cons] at e ⊢
    omega
/-! ### going on -/
def goLoop : List Leg → P2 → Int → P2 × Int
  | [], place, left => (place, left)
  | (_, none) :: _, place, left => (place, left)
  | (many, some (later, _)) :: l, place, left => if left ≤ many then (place, left) else goLoop l later (left - many)
theorem LegsOk.go {F : Fr} {start : P2} {T f : Nat} {place : P2} {l : List Leg} (h : LegsOk F start T f place l) : ∀ (left : Nat), f ≤ left → (left : Int) ≤ sumL l →
    Cg F (it F (T + left) start) (shift (goLoop l place left).1 (goLoop l place left).2) := by
  induction h with
  | @last T place b h1 h2 h3 =>
    intro left a c
    simp only [sumL, List.map_cons, List.map_nil, List.sum_cons, List.sum_nil] at c
    exact h1 left a (by omega)
  | @step T f place place' n m l h1 hf h2 ih =>
    intro left a c
    simp only [sumL, List.map_cons, List.sum_cons] at c
    show Cg F (it F (T + left) start) (shift (if (left : Int) ≤ n then (place, (left : Int)) else goLoop l place' ((left : Int) - n)).1 (if (left : Int) ≤ n then (place, (left : Int)) else goLoop l place' ((left : Int) - n)).2)
    by_cases q : (left : Int) ≤ n
    · rw [if_pos q]
      exact h1 left a (by omega)
    · rw [if_neg q]
      have e : (left : Int) - n = ((left - n : Nat) : Int) := by omega
      rw [e]
      have := ih (left - n) (by omega) (by simp only [sumL]; omega)
      rwa [show T + n + (left - n) = T + left by omega] at this
/-! ### together -/
def togLoop (F : Fr) (ways : List P2) : List Leg → P2 → Int → Bool
  | [], _, _ => false
  | (many, later) :: l, place, first =>
    if (ways.any fun q => match stepsTo F (place.1 + first, place.2 + first) q with
      | none => false
      | some n => decide (n + first ≤ many)) = true then true
    else match later with
      | none => false
      | some (p, _) => togLoop F ways l p 1
theorem LegsOk.sum0 {F : Fr} {start : P2} {T f : Nat} {place : P2} {l : List Leg} (h : LegsOk F start T f place l) : 0 ≤ sumL l := by
  induction h with
  | last => simp only [sumL, List.map_cons, List.map_nil, List.sum_cons, List.sum_nil]; omega
  | @step T f place place' n m l h1 hf h2 ih =>
    simp only [sumL, List.map_cons, List.sum_cons] at ih ⊢
    omega
section
variable {F : Fr} (S : FrS F)
include S
theorem LegsOk.tog {start : P2} {ways : List P2} {T f : Nat} {place : P2} {l : List Leg} (h : LegsOk F start T f place l) :
    togLoop F ways l place f = true ↔ ∃ i : Nat, T + f ≤ i ∧ (i : Int) ≤ T + sumL l ∧ ∃ q ∈ ways, Cg F (it F i start) q := by
  have one : ∀ (T f : Nat) (place : P2) (b : Nat), (∀ j : Nat, f ≤ j → j ≤ b → Cg F (it F (T + j) start) (shift place j)) → f ≤ b + 1 →
      ((ways.any fun q => match stepsTo F (place.1 + f, place.2 + f) q with
        | none => false
        | some n => decide (n + f ≤ (b : Int))) = true ↔ ∃ i : Nat, T + f ≤ i ∧ i ≤ T + b ∧ ∃ q ∈ ways, Cg F (it F i start) q) := by
    intro T f place b hb hfb
    rw [List.any_eq_true]
    constructor
    · rintro ⟨q, hq, hd⟩
      cases es : stepsTo F (place.1 + f, place.2 + f) q with
      | none => rw [es] at hd; cases hd
      | some n =>
        rw [es] at hd
        have hd : n + f ≤ (b : Int) := of_decide_eq_true hd
        obtain ⟨n0, n1, hc⟩ := (stepsTo_spec S.toFrOk).mp es
        refine ⟨T + f + n.toNat, by omega, by omega, q, hq, ?_⟩
        have h1 := hb (f + n.toNat) (by omega) (by omega)
        rw [show T + (f + n.toNat) = T + f + n.toNat by omega, show ((f + n.toNat : Nat) : Int) = f + n by omega, ← shift_shift] at h1
        exact h1.trans hc
    · rintro ⟨i, h1, h2, q, hq, hc⟩
      refine ⟨q, hq, ?_⟩
      have h3 := hb (i - T) (by omega) (by omega)
      rw [show T + (i - T) = i by omega] at h3
      have h4 : Cg F (shift (place.1 + f, place.2 + f) ((i - T - f : Nat) : Int)) q := by
        show Cg F (shift (shift place f) ((i - T - f : Nat) : Int)) q
        rw [shift_shift, show (f : Int) + ((i - T - f : Nat) : Int) = ((i - T : Nat) : Int) by omega]
        exact h3.symm.trans hc
      -- the least one is not later
      have hL := S.toFrOk.Lpos
      obtain ⟨n, hn⟩ := stepsTo_some S.toFrOk h4
      rw [hn]
      refine decide_eq_true ?_
      obtain ⟨n0, n1, hcn⟩ := (stepsTo_spec S.toFrOk).mp hn
      by_cases c : ((i - T - f : Nat) : Int) < F.L
      · have := (stepsTo_spec S.toFrOk).mpr ⟨by omega, c, h4⟩
        rw [hn] at this
        have := Option.some.inj this
        omega
      · omega
  induction h with
  | @last T place b h1 h2 h3 =>
    simp only [togLoop]
    have := one T 1 place b h1 (by omega)
    rw [show ((1 : Nat) : Int) = 1 from rfl] at this ⊢
    constructor
    · intro q
      by_cases c : (ways.any fun q => match stepsTo F (place.1 + 1, place.2 + 1) q with
        | none => false
        | some n => decide (n + 1 ≤ (b : Int))) = true
      · obtain ⟨i, a1, a2, a3⟩ := this.mp c
        refine ⟨i, a1, ?_, a3⟩
        simp only [sumL, List.map_cons, List.map_nil, List.sum_cons, List.sum_nil]; omega
      · rw [if_neg c] at q; cases q
    · rintro ⟨i, a1, a2, a3⟩
      simp only [sumL, List.map_cons, List.map_nil, List.sum_cons, List.sum_nil] at a2
      rw [if_pos (this.mpr ⟨i, a1, by omega, a3⟩)]
  | @step T f place place' n m l h1 hf h2 ih =>
    simp only [togLoop]
    have := one T f place n h1 (by omega)
    rw [show ((1 : Nat) : Int) = 1 from rfl] at ih
    have es : sumL (((n : Int), some (place', m)) :: l) = n + sumL l := by simp only [sumL, List.map_cons, List.sum_cons]
    have hs : 0 ≤ sumL l := h2.sum0
    constructor
    · intro q
      by_cases c : (ways.any fun q => match stepsTo F (place.1 + f, place.2 + f) q with
        | none => false
        | some k => decide (k + f ≤ (n : Int))) = true
      · obtain ⟨i, a1, a2, a3⟩ := this.mp c
        refine ⟨i, a1, ?_, a3⟩
        rw [es]; omega
      · rw [if_neg c] at q
        obtain ⟨i, a1, a2, a3⟩ := ih.mp q
        refine ⟨i, by omega, ?_, a3⟩
        rw [es]; omega
    · rintro ⟨i, a1, a2, a3⟩
      rw [es] at a2
      by_cases c : i ≤ T + n
      · rw [if_pos (this.mpr ⟨i, a1, c, a3⟩)]
      · have := ih.mpr ⟨i, by omega, by omega, a3⟩
        split
        · rfl
        · exact this
end
end Sd
end
section
/-! Going on, together, the length and the number of threads, by the walk. -/
namespace Sd
def pmin (i j : Int) : Int := if j < i then j else i
def threadClass (F : Fr) (p : P2) : Int := pmin ((p.1 - p.2) % F.g) (F.g - (p.1 - p.2) % F.g)
theorem class_eq {F : Fr} (hg : 0 < F.g) (p q : P2) : threadClass F p = threadClass F q ↔ (F.g ∣ (p.1 - p.2) - (q.1 - q.2) ∨ F.g ∣ (p.1 - p.2) + (q.1 - q.2)) := by
  unfold threadClass
  generalize p.1 - p.2 = x
  generalize q.1 - q.2 = y
  have x0 := Int.emod_nonneg x (b := F.g) (by omega)
  have x1 := Int.emod_lt_of_pos x hg
  have y0 := Int.emod_nonneg y (b := F.g) (by omega)
  have y1 := Int.emod_lt_of_pos y hg
  have dx : F.g ∣ x - x % F.g := Int.dvd_self_sub_emod
  have dy : F.g ∣ y - y % F.g := Int.dvd_self_sub_emod
  generalize x % F.g = a at *
  generalize y % F.g = b at *
  have small : ∀ z : Int, F.g ∣ z → -F.g < z → z < 2 * F.g → z = 0 ∨ z = F.g := by
    rintro z ⟨c, rfl⟩ h1 h2
    have c1 : -1 < c := by
      rcases Int.lt_or_le (-1) c with h | h
      · exact h
      · have : F.g * c ≤ F.g * (-1) := Int.mul_le_mul_of_nonneg_left h (by omega)
        omega
    have c2 : c < 2 := by
      rcases Int.lt_or_le c 2 with h | h
      · exact h
      · have : F.g * 2 ≤ F.g * c := Int.mul_le_mul_of_nonneg_left h (by omega)
        omega
    have : c = 0 ∨ c = 1 := by omega
    rcases this with rfl | rfl
    · left; omega
    · right; omega
  constructor
  · intro h
    unfold pmin at h
    have : a = b ∨ a + b = F.g := by
      split at h <;> split at h <;> omega
    rcases this with e | e
    · left
      exact dvd_sub' dx dy (by omega)
    · right
      refine dvd_add' (dvd_add' dx dy rfl) (Int.dvd_refl F.g) (by omega)
  · intro h
    have : a = b ∨ a + b = 0 ∨ a + b = F.g := by
      rcases h with h | h
      · have h2 : F.g ∣ a - b := dvd_sub' h (dvd_sub' dx dy rfl) (by omega)
        rcases small _ h2 (by omega) (by omega) with e | e
        · left; omega
        · omega
      · have h2 : F.g ∣ a + b := dvd_sub' h (dvd_add' dx dy rfl) (by omega)
        exact .inr (small _ h2 (by omega) (by omega))
    unfold pmin
    rcases this with e | e | e
    · rw [e]
    · rw [show a = 0 by omega, show b = 0 by omega]
    · split <;> split <;> omega
def farTog (F : Fr) (p : P2) (q r : P2) : Option Bool := match toMirror F p with
  | none => some (decide (toMirror F q = none) && decide (threadClass F p = threadClass F q))
  | some _ => (legs F p).map fun l => togLoop F [q, r] l p 0
/-- the sum of the parts; the point at the mirrors is one more -/
def lenOf (l : List Leg) : Int := if l.length > 1 then sumL l + 1 else sumL l
def farLen (F : Fr) (p : P2) : Option Int := (legs F p).map lenOf
def goOn (F : Fr) (p : P2) (s : Int) : Option P2 := (legs F p).map fun l => shift (goLoop l p (s % lenOf l)).1 (goLoop l p (s % lenOf l)).2
theorem LegsOk.two {F : Fr} {start : P2} {T f : Nat} {place : P2} {l : List Leg} (h : LegsOk F start T f place l) : 1 ≤ l.length := by
  cases h <;> simp
theorem LegsOk.two0 {F : Fr} {start : P2} {T : Nat} {place : P2} {l : List Leg} (h : LegsOk F start T 0 place l) : 1 < l.length := by
  cases h with
  | step h1 hf h2 => have := h2.two; simp; omega
section
variable {F : Fr} (S : FrS F)
include S
theorem L_eq : F.A * F.D / F.g = F.L := by
  unfold Fr.L
  exact Int.mul_ediv_assoc _ S.toFrOk.ok.gb
theorem bare_not {p : P2} (h : toMirror F p = none) (n : Int) (m : Mir) : ¬ At F (shift p n) m := fun hm => by
  obtain ⟨n', m', e⟩ := at_some S hm
  rw [h] at e; cases e
theorem bare_it {p : P2} (h : toMirror F p = none) (n : Nat) : it F n p = shift p n := straight S n fun j _ m => bare_not S h j m
theorem bare_cg {p : P2} (n : Int) : Cg F (shift p n) p ↔ F.L ∣ n := by
  constructor
  · intro h
    refine S.toFrOk.Ldvd ?_ ?_
    · have := h.a; simp only [shift] at this; rwa [show p.1 + n - p.1 = n by omega] at this
    · have := h.d; simp only [shift] at this; rwa [show p.2 + n - p.2 = n by omega] at this
  · intro h
    refine ⟨?_, ?_⟩
    · simp only [shift]; rw [show p.1 + n - p.1 = n by omega]; exact Int.dvd_trans S.toFrOk.AL h
    · simp only [shift]; rw [show p.2 + n - p.2 = n by omega]; exact Int.dvd_trans S.toFrOk.DL h
theorem bare_least {p : P2} (h : toMirror F p = none) : Least F p F.L.toNat := by
  have hL := S.toFrOk.Lpos
  refine ⟨⟨by omega, ?_⟩, fun i h1 h2 hc => ?_⟩
  · rw [bare_it S h, show ((F.L.toNat : Nat) : Int) = F.L by omega]
    exact (bare_cg S _).mpr (Int.dvd_refl _)
  · rw [bare_it S h] at hc
    have := Int.le_of_dvd (by omega) ((bare_cg S _).mp hc)
    omega
theorem legs_bare {p : P2} (h : toMirror F p = none) : legs F p = some [(F.L, none)] := by
  unfold legs
  rw [h, ← L_eq S]
theorem farLen_ok (p : P2) : ∃ n : Nat, farLen F p = some (n : Int) ∧ Least F p n := by
  cases e : toMirror F p with
  | none =>
    refine ⟨F.L.toNat, ?_, bare_least S e⟩
    unfold farLen
    rw [legs_bare S e]
    have := S.toFrOk.Lpos
    simp [lenOf, sumL]
    omega
  | some b =>
    obtain ⟨n, m⟩ := b
    obtain ⟨l, el, hl, _⟩ := legs_ok S e
    obtain ⟨k, hk, es⟩ := hl.sum
    refine ⟨k, ?_, hk⟩
    unfold farLen
    rw [el]
    have := hl.two0
    simp only [Option.map_some, lenOf, if_pos this]
    congr 1
    omega
theorem goOn_ok (p : P2) (s : Int) (hs : 0 ≤ s) : ∃ q, goOn F p s = some q ∧ Cg F (it F s.toNat p) q := by
  cases e : toMirror F p with
  | none =>
    unfold goOn
    rw [legs_bare S e]
    refine ⟨_, rfl, ?_⟩
    have hL := S.toFrOk.Lpos
    show Cg F _ (shift p (s % lenOf [(F.L, none)]))
    have : lenOf [(F.L, none)] = F.L := by simp [lenOf, sumL]
    rw [this, bare_it S e, show ((s.toNat : Nat) : Int) = s by omega]
    have hd : F.L ∣ s - s % F.L := Int.dvd_self_sub_emod
    have h2 := (bare_cg S (p := shift p (s % F.L)) (s - s % F.L)).mpr hd
    rwa [shift_shift, show s % F.L + (s - s % F.L) = s by omega] at h2
  | some b =>
    obtain ⟨n, m⟩ := b
    obtain ⟨l, el, hl, _⟩ := legs_ok S e
    obtain ⟨k, hk, es⟩ := hl.sum
    unfold goOn
    rw [el]
    refine ⟨_, rfl, ?_⟩
    have h2 := hl.two0
    have eL : lenOf l = (k : Int) := by simp only [lenOf, if_pos h2]; omega
    show Cg F (it F s.toNat p) (shift (goLoop l p (s % lenOf l)).1 (goLoop l p (s % lenOf l)).2)
    rw [eL]
    have k0 := hk.ret.1
    have m0 := Int.emod_nonneg s (b := (k : Int)) (by omega)
    have m1 := Int.emod_lt_of_pos s (b := (k : Int)) (by omega)
    have em : s % (k : Int) = ((s.toNat % k : Nat) : Int) := by
      rw [Int.natCast_emod, show ((s.toNat : Nat) : Int) = s by omega]
    rw [em] at m0 m1 ⊢
    have := hl.go (s.toNat % k) (Nat.zero_le _) (by omega)
    rw [Nat.zero_add] at this
    exact (Ret.mod S hk.ret s.toNat).trans this
/-- every state comes again -/
theorem ret_ex (p : P2) : ∃ n, Least F p n := by
  obtain ⟨n, _, h⟩ := farLen_ok S p
  exact ⟨n, h⟩
theorem Reach.symm {p q : P2} (h : Reach F p q) : Reach F q p := by
  obtain ⟨n, hn⟩ := ret_ex S p
  exact Ret.back S hn.ret h
theorem farLen_rev (p : P2) : farLen F (rev p) = farLen F p := by
  obtain ⟨a, e1, h1⟩ := farLen_ok S p
  obtain ⟨b, e2, h2⟩ := farLen_ok S (rev p)
  rw [e1, e2]
  have : a = b := by
    refine Least.uni h1 ⟨?_, fun i hi hb hc => ?_⟩
    · have := Ret.rev S h2.ret
      rwa [rev_rev] at this
    · exact h2.min i hi hb (Ret.rev S ⟨hi, hc⟩).2
  rw [this]
theorem farTog_ok (p q : P2) : ∃ b, farTog F p q (rev q) = some b ∧ (b = true ↔ (Reach F p q ∨ Reach F p (rev q))) := by
  cases e : toMirror F p with
  | none =>
    refine ⟨_, by unfold farTog; rw [e], ?_⟩
    rw [Bool.and_eq_true, decide_eq_true_eq, decide_eq_true_eq, class_eq S.toFrOk.ok.g0]
    have cls : ∀ q : P2, (∃ n : Nat, Cg F (it F n p) q) → F.g ∣ (p.1 - p.2) - (q.1 - q.2) := by
      rintro q ⟨n, hc⟩
      rw [bare_it S e] at hc
      have h1 := Int.dvd_trans S.toFrOk.ok.ga hc.a
      have h2 := Int.dvd_trans S.toFrOk.ok.gb hc.d
      simp only [shift] at h1 h2
      exact dvd_sub' h1 h2 (by omega)
    have sl : ∀ q : P2, F.g ∣ (p.1 - p.2) - (q.1 - q.2) → Reach F p q := by
      intro q h
      cases es : stepsTo F p q with
      | some n =>
        obtain ⟨n0, _, hc⟩ := (stepsTo_spec S.toFrOk).mp es
        refine ⟨n.toNat, ?_⟩
        rw [bare_it S e, show ((n.toNat : Nat) : Int) = n by omega]
        exact hc
      | none =>
        exfalso
        unfold stepsTo at es
        have da : F.A ∣ (q.1 - p.1) - (q.1 - p.1) % F.A := Int.dvd_self_sub_emod
        have db : F.D ∣ (q.2 - p.2) - (q.2 - p.2) % F.D := Int.dvd_self_sub_emod
        have da' := Int.dvd_trans S.toFrOk.ok.ga da
        have db' := Int.dvd_trans S.toFrOk.ok.gb db
        have hz : ((q.2 - p.2) % F.D - (q.1 - p.1) % F.A) % F.g = 0 := by
          apply Int.emod_eq_zero_of_dvd
          exact dvd_sub' (dvd_sub' h db' rfl) (dvd_neg' da' rfl) (by omega)
        rw [if_neg (by omega)] at es
        cases es
    constructor
    · rintro ⟨_, h | h⟩
      · exact .inl (sl q h)
      · refine .inr (sl (rev q) ?_)
        rw [show (p.1 - p.2) - ((rev q).1 - (rev q).2) = (p.1 - p.2) + (q.1 - q.2) by simp only [rev]; omega]
        exact h
    · intro h
      refine ⟨?_, ?_⟩
      · cases eq : toMirror F q with
        | none => rfl
        | some b =>
          exfalso
          obtain ⟨n, m⟩ := b
          have hat := hit_at S (toMirror_some eq).1
          rcases h with ⟨k, hk⟩ | ⟨k, hk⟩
          · rw [bare_it S e] at hk
            have := hat.cg (hk.shift n)
            rw [shift_shift] at this
            exact bare_not S e _ _ this
          · rw [bare_it S e] at hk
            -- the mirror's other side, backwards
            obtain ⟨g, hg, hc⟩ := hat
            have h2 : At F (shift (rev q) (-1 - n)) m := ⟨neg g, S.clon hg, by
              have := hc.neg
              rwa [show neg (shift q n) = shift (rev q) (-1 - n) by simp only [neg, shift, rev]; ext <;> simp <;> omega] at this⟩
            have := h2.cg (hk.shift (-1 - n))
            rw [shift_shift] at this
            exact bare_not S e _ _ this
      · rcases h with h | h
        · exact .inl (cls q h)
        · right
          have := cls (rev q) h
          rwa [show (p.1 - p.2) - ((rev q).1 - (rev q).2) = (p.1 - p.2) + (q.1 - q.2) by simp only [rev]; omega] at this
  | some b =>
    obtain ⟨n, m⟩ := b
    obtain ⟨l, el, hl, _⟩ := legs_ok S e
    obtain ⟨k, hk, es⟩ := hl.sum
    refine ⟨togLoop F [q, rev q] l p 0, by unfold farTog; rw [e, el]; rfl, ?_⟩
    have ht := hl.tog S (ways := [q, rev q])
    rw [show ((0 : Nat) : Int) = 0 from rfl] at ht
    rw [ht]
    have k0 := hk.ret.1
    constructor
    · rintro ⟨i, _, _, r, hr, hc⟩
      rcases List.mem_cons.mp hr with rfl | hr
      · exact .inl ⟨i, hc⟩
      · rw [List.mem_singleton] at hr
        subst hr
        exact .inr ⟨i, hc⟩
    · have go : ∀ r ∈ [q, rev q], Reach F p r → ∃ i : Nat, 0 + 0 ≤ i ∧ (i : Int) ≤ (0 : Nat) + sumL l ∧ ∃ q_1 ∈ [q, rev q], Cg F (it F i p) q_1 := by
        rintro r hr ⟨i, hc⟩
        have hm : i % k < k := Nat.mod_lt _ k0
        exact ⟨i % k, by omega, by omega, r, hr, (Ret.mod S hk.ret i).symm.trans hc⟩
      rintro (h | h)
      · exact go q (by simp) h
      · exact go (rev q) (by simp) h
end
/-! ### the number of threads -/
def canon (F : Fr) (p : P2) : P2 := (p.1 % F.A, p.2 % F.D)
theorem canon_cg (F : Fr) (p : P2) : Cg F (canon F p) p := ⟨dvd_neg' (b := p.1 - p.1 % F.A) Int.dvd_self_sub_emod (by simp only [canon]; omega), dvd_neg' (b := p.2 - p.2 % F.D) Int.dvd_self_sub_emod (by simp only [canon]; omega)⟩
theorem canon_eq {F : Fr} {p q : P2} (h : Cg F p q) : canon F p = canon F q := by
  simp only [canon]
  rw [Int.emod_eq_emod_iff_emod_sub_eq_zero.mpr (Int.emod_eq_zero_of_dvd h.a), Int.emod_eq_emod_iff_emod_sub_eq_zero.mpr (Int.emod_eq_zero_of_dvd h.d)]
theorem canon_canon (F : Fr) (p : P2) : canon F (canon F p) = canon F p := canon_eq (canon_cg F p)
def cyc (F : Fr) : Nat → P2 → List P2 → Option (List P2)
  | 0, _, _ => none
  | k + 1, pl, seen => if pl ∈ seen then some seen else match fromMirror F pl with
    | none => none
    | some (n, m) => cyc F k (canon F (behind pl n m.ly)) (seen ++ [pl])
def addNew (l : List Int) (c : Int) : List Int := if c ∈ l then l else l ++ [c]
structure Cnt where
  met : List Int
  seen : List P2
  dir : Int
def cntStep (F : Fr) (k : Nat) (s : Cnt) (q : P2 × Mir) : Option Cnt :=
  (cyc F k (canon F q.1) s.seen).map fun seen' => ⟨addNew s.met (threadClass F q.1), seen', if canon F q.1 ∈ s.seen then s.dir else s.dir + 1⟩
def cntAll (F : Fr) (k : Nat) : Cnt → List (P2 × Mir) → Option Cnt
  | s, [] => some s
  | s, q :: l => match cntStep F k s q with
    | none => none
    | some s' => cntAll F k s' l
def farCount (F : Fr) : Option Int := (cntAll F (F.goals.length + 1) ⟨[], [], 0⟩ F.goals).map fun s => F.g / 4 - s.met.length + s.dir / 2
def OR (F : Fr) (p q : P2) : Prop := Reach F (shift p 1) (shift q 1)
section
variable {F : Fr} (S : FrS F)
include S
theorem OR.symm {p q : P2} (h : OR F p q) : OR F q p := Reach.symm S h
theorem OR.trans {p q r : P2} (h : OR F p q) (k : OR F q r) : OR F p r := Reach.trans S h k
omit S in
theorem OR.refl (p : P2) : OR F p p := ⟨0, Cg.refl _⟩
theorem OR.cg {p q p' q' : P2} (h : OR F p q) (a : Cg F p p') (b : Cg F q q') : OR F p' q' := Reach.cg S h (a.shift 1) (b.shift 1)
/-- from a mirror to the next one -/
theorem next_ok {p : P2} {m : Mir} (h : At F p m) : ∃ (n : Nat) (m' : Mir), fromMirror F p = some ((n : Int), m') ∧ 1 ≤ n ∧ At F (behind p n m'.ly) m' ∧ Cg F (it F n (shift p 1)) (shift (behind p n m'.ly) 1) ∧
    ∀ (k : Nat) (c : P2) (m'' : Mir), At F c m'' → Cg F (it F k (shift p 1)) (shift c 1) → Cg F p c ∨ (n ≤ k ∧ Cg F (it F (k - n) (shift (behind p n m'.ly) 1)) (shift c 1)) := by
  have hL := S.toFrOk.Lpos
  obtain ⟨n1, m1, e1⟩ : ∃ n1 m1, toMirror F (shift p 1) = some (n1, m1) := by
    refine at_some S (n := F.L - 1) (m := m) ?_
    rw [shift_shift, show 1 + (F.L - 1) = F.L by omega]
    exact h.cg ((bare_cg S F.L).mpr (Int.dvd_refl _))
  obtain ⟨g1, g2⟩ := toMirror_some e1
  have b1 := hit_bd S g1
  have no1 : ∀ j : Nat, (j : Int) < n1 → ∀ m, ¬ At F (shift (shift p 1) j) m := fun j hj m' hm' => by
    have := g2 j m' (at_hit S hm' (by omega) (by omega))
    omega
  have hn : n1 + 1 = ((n1.toNat + 1 : Nat) : Int) := by omega
  have hat : At F (shift p (n1 + 1)) m1 := by
    rw [Int.add_comm, ← shift_shift]
    exact hit_at S g1
  have ebe : behind p ((n1.toNat + 1 : Nat) : Int) m1.ly = rf m1.ly (shift p (n1 + 1)) := by rw [behind_eq, ← hn]
  have hst : ∀ j : Nat, (j : Int) ≤ n1 → it F j (shift p 1) = shift p (1 + j) := fun j hj => by
    have := straight S (p := shift p 1) j fun i hi => no1 i (by omega)
    rw [this, shift_shift]
  have hgo : it F (n1.toNat + 1) (shift p 1) = shift (behind p ((n1.toNat + 1 : Nat) : Int) m1.ly) 1 := by
    rw [it_succ, hst n1.toNat (by omega), ebe, show (1 : Int) + ((n1.toNat : Nat) : Int) = n1 + 1 by omega]
    unfold nx
    rw [refl_at S hat]
  refine ⟨n1.toNat + 1, m1, ?_, by omega, ?_, by rw [hgo]; exact Cg.refl _, ?_⟩
  · unfold fromMirror
    show (toMirror F (shift p 1)).map _ = _
    rw [e1, ← hn]; rfl
  · rw [ebe]
    obtain ⟨q, hq, hc⟩ := hat
    exact ⟨rf m1.ly q, S.clo _ _ _ hq, hc.rf _⟩
  · intro k c m'' hc hk
    by_cases ck : k < n1.toNat + 1
    · left
      rw [hst k (by omega), ← shift_shift] at hk
      have hk' : Cg F (shift p k) c := by
        rw [shift_shift, Int.add_comm, ← shift_shift] at hk
        exact hk.unshift
      by_cases k0 : k = 0
      · subst k0
        rw [show ((0 : Nat) : Int) = 0 from rfl, shift_zero] at hk'
        exact hk'
      · exfalso
        refine no1 (k - 1) (by omega) m'' (hc.cg ?_)
        rw [shift_shift, show (1 : Int) + ((k - 1 : Nat) : Int) = (k : Int) by omega]
        exact hk'
    · right
      refine ⟨by omega, ?_⟩
      rw [← hgo, ← it_add, show n1.toNat + 1 + (k - (n1.toNat + 1)) = k by omega]
      exact hk
def MNext (F : Fr) (s t : P2) : Prop := ∃ n m, fromMirror F s = some (n, m) ∧ t = canon F (behind s n m.ly)
def Good (F : Fr) (s : P2) : Prop := canon F s = s ∧ ∃ m, At F s m
omit S in
theorem Good.of {p : P2} {m : Mir} (h : At F p m) : Good F (canon F p) := ⟨canon_canon F p, m, h.cg (canon_cg F p)⟩
omit S in
theorem Good.eq {s t : P2} (h : Good F s) (k : Good F t) (c : Cg F s t) : s = t := by
  rw [← h.1, ← k.1]; exact canon_eq c
structure Seen (F : Fr) (seen : List P2) : Prop where
  good : ∀ s ∈ seen, Good F s
  nd : seen.Nodup
omit S in
theorem Seen.len {seen : List P2} (h : Seen F seen) : seen.length ≤ F.goals.length := by
  refine pigeon (fun (s : P2) (q : P2 × Mir) => Cg F s q.1) seen F.goals (fun s hs => ?_) ?_
  · obtain ⟨_, m, q, hq, hc⟩ := h.good s hs
    exact ⟨(q, m), hq, hc⟩
  · have hn := h.nd
    have hg := h.good
    clear h
    induction seen with
    | nil => exact List.Pairwise.nil
    | cons s l ih =>
      rw [List.nodup_cons] at hn
      refine List.pairwise_cons.mpr ⟨fun t ht ⟨q, h1, h2⟩ => ?_, ih hn.2 fun t ht => hg t (List.mem_cons_of_mem _ ht)⟩
      have := (hg s (List.mem_cons_self ..)).eq (hg t (List.mem_cons_of_mem _ ht)) (h1.trans h2.symm)
      rw [this] at hn
      exact hn.1 ht
omit S in
theorem nodup_snoc {α : Type} {l : List α} {a : α} (h : l.Nodup) (ha : a ∉ l) : (l ++ [a]).Nodup := by
  rw [List.nodup_append]
  refine ⟨h, by simp, fun x hx y hy e => ?_⟩
  rw [List.mem_singleton] at hy
  rw [e, hy] at hx
  exact ha hx
theorem cyc_ok : ∀ (k : Nat) (pl : P2) (seen : List P2), Seen F seen → Good F pl → (∀ s ∈ seen, ∀ t, MNext F s t → t ∈ seen ∨ t = pl) → F.goals.length + 1 ≤ k + seen.length →
    ∃ seen', cyc F k pl seen = some seen' ∧ Seen F seen' ∧ (∀ s ∈ seen', ∀ t, MNext F s t → t ∈ seen') ∧ pl ∈ seen' ∧ (∀ s ∈ seen, s ∈ seen') ∧ ∀ s ∈ seen', s ∈ seen ∨ OR F pl s := by
  intro k
  induction k with
  | zero =>
    intro pl seen h _ _ hk
    have := h.len
    omega
  | succ k ih =>
    intro pl seen h hp hcl hk
    unfold cyc
    by_cases c : pl ∈ seen
    · rw [if_pos c]
      refine ⟨seen, rfl, h, fun s hs t ht => ?_, c, fun s hs => hs, fun s hs => .inl hs⟩
      rcases hcl s hs t ht with h1 | rfl
      · exact h1
      · exact c
    · rw [if_neg c]
      obtain ⟨m, hm⟩ := hp.2
      obtain ⟨n, m', e, n1, hat, hgo, _⟩ := next_ok S hm
      rw [e]
      show ∃ seen', cyc F k (canon F (behind pl n m'.ly)) (seen ++ [pl]) = some seen' ∧ _
      have hor : OR F pl (canon F (behind pl n m'.ly)) := ⟨n, hgo.trans ((canon_cg F _).symm.shift 1)⟩
      obtain ⟨seen', e2, h1, h2, h3, h4, h5⟩ := ih (canon F (behind pl n m'.ly)) (seen ++ [pl]) ⟨fun s hs => by
          rcases List.mem_append.mp hs with q | q
          · exact h.good s q
          · rw [List.mem_singleton.mp q]; exact hp, nodup_snoc h.nd c⟩ (Good.of hat) (fun s hs t ht => by
          rcases List.mem_append.mp hs with q | q
          · rcases hcl s q t ht with h1 | rfl
            · exact .inl (List.mem_append_left _ h1)
            · exact .inl (List.mem_append_right _ (List.mem_singleton.mpr rfl))
          · rw [List.mem_singleton.mp q] at ht
            obtain ⟨n2, m2, e3, rfl⟩ := ht
            rw [e] at e3
            cases e3
            exact .inr rfl) (by rw [List.length_append, List.length_singleton]; omega)
      refine ⟨seen', e2, h1, h2, h4 pl (List.mem_append_right _ (List.mem_singleton.mpr rfl)), fun s hs => h4 s (List.mem_append_left _ hs), fun s hs => ?_⟩
      rcases h5 s hs with q | q
      · rcases List.mem_append.mp q with q | q
        · exact .inl q
        · rw [List.mem_singleton.mp q]; exact .inr (OR.refl _)
      · exact .inr (OR.trans S hor q)
/-- what is closed has the whole thread -/
theorem closed_all {seen : List P2} (h : Seen F seen) (hc : ∀ s ∈ seen, ∀ t, MNext F s t → t ∈ seen) : ∀ (k : Nat) (pl c : P2), pl ∈ seen → Good F c → Cg F (it F k (shift pl 1)) (shift c 1) → c ∈ seen := by
  intro k
  induction k using Nat.strongRecOn with
  | _ k ih =>
    intro pl c hpl hg hk
    obtain ⟨_, m, hm⟩ := h.good pl hpl
    obtain ⟨n, m', e, n1, hat, hgo, hun⟩ := next_ok S hm
    obtain ⟨m2, hm2⟩ := hg.2
    rcases hun k c m2 hm2 hk with h1 | ⟨h1, h2⟩
    · rw [← (h.good pl hpl).eq hg h1]; exact hpl
    · refine ih (k - n) (by omega) (canon F (behind pl n m'.ly)) c (hc pl hpl _ ⟨n, m', e, rfl⟩) hg ?_
      exact (it_cg S _ ((canon_cg F _).shift 1)).trans h2
structure CInv (F : Fr) (done : List (P2 × Mir)) (s : Cnt) : Prop where
  seen : Seen F s.seen
  cl : ∀ x ∈ s.seen, ∀ t, MNext F x t → t ∈ s.seen
  mem : ∀ c, Good F c → (c ∈ s.seen ↔ ∃ q ∈ done, OR F q.1 c)
  mnd : s.met.Nodup
  met : ∀ c, c ∈ s.met ↔ ∃ q ∈ done, threadClass F q.1 = c
  reps : ∃ r : List P2, s.dir = (r.length : Int) ∧ (∀ p ∈ r, ∃ m, (p, m) ∈ done) ∧ r.Pairwise (fun a b => ¬ OR F a b) ∧ ∀ q ∈ done, ∃ p ∈ r, OR F p q.1
theorem cntStep_ok {done : List (P2 × Mir)} {s : Cnt} {q : P2 × Mir} {k : Nat} (I : CInv F done s) (hq : q ∈ F.goals) (hk : F.goals.length + 1 ≤ k) : ∃ s', cntStep F k s q = some s' ∧ CInv F (done ++ [q]) s' := by
  obtain ⟨p, m⟩ := q
  have hat : At F p m := ⟨p, hq, Cg.refl _⟩
  have hgd : Good F (canon F p) := Good.of hat
  obtain ⟨seen', e, h1, h2, h3, h4, h5⟩ := cyc_ok S k (canon F p) s.seen I.seen hgd (fun x hx t ht => .inl (I.cl x hx t ht)) (by omega)
  refine ⟨_, by unfold cntStep; rw [e]; rfl, h1, h2, ?_, ?_, ?_, ?_⟩
  · intro c hc
    constructor
    · intro hm
      rcases h5 c hm with h6 | h6
      · obtain ⟨q', hq', ho⟩ := (I.mem c hc).mp h6
        exact ⟨q', List.mem_append_left _ hq', ho⟩
      · exact ⟨(p, m), List.mem_append_right _ (List.mem_singleton.mpr rfl), OR.cg S h6 (canon_cg F p) (Cg.refl _)⟩
    · rintro ⟨q', hq', ho⟩
      rcases List.mem_append.mp hq' with h6 | h6
      · exact h4 c ((I.mem c hc).mpr ⟨q', h6, ho⟩)
      · rw [List.mem_singleton.mp h6] at ho
        obtain ⟨j, hj⟩ := OR.cg S ho (canon_cg F p).symm (Cg.refl _)
        exact closed_all S h1 h2 j (canon F p) c h3 hc hj
  · show (addNew s.met (threadClass F p)).Nodup
    unfold addNew
    split
    · exact I.mnd
    · rename_i hn; exact nodup_snoc I.mnd hn
  · intro c
    show c ∈ addNew s.met (threadClass F p) ↔ _
    have base : c ∈ addNew s.met (threadClass F p) ↔ (c ∈ s.met ∨ c = threadClass F p) := by
      unfold addNew
      split
      · rename_i hn
        constructor
        · exact .inl
        · rintro (h | rfl)
          · exact h
          · exact hn
      · rw [List.mem_append, List.mem_singleton]
    rw [base, I.met]
    constructor
    · rintro (⟨q', a, b⟩ | rfl)
      · exact ⟨q', List.mem_append_left _ a, b⟩
      · exact ⟨(p, m), List.mem_append_right _ (List.mem_singleton.mpr rfl), rfl⟩
    · rintro ⟨q', a, b⟩
      rcases List.mem_append.mp a with a | a
      · exact .inl ⟨q', a, b⟩
      · rw [List.mem_singleton.mp a] at b
        exact .inr b.symm
  · obtain ⟨r, r1, r2, r3, r4⟩ := I.reps
    by_cases c : canon F p ∈ s.seen
    · obtain ⟨q', hq', ho⟩ := (I.mem _ hgd).mp c
      refine ⟨r, by show (if canon F p ∈ s.seen then _ else _) = _; rw [if_pos c]; exact r1, fun a ha => ?_, r3, fun x hx => ?_⟩
      · obtain ⟨m', hm'⟩ := r2 a ha
        exact ⟨m', List.mem_append_left _ hm'⟩
      · rcases List.mem_append.mp hx with hx | hx
        · exact r4 x hx
        · rw [List.mem_singleton.mp hx]
          obtain ⟨a, ha, hoa⟩ := r4 q' hq'
          exact ⟨a, ha, OR.trans S hoa (OR.cg S ho (Cg.refl _) (canon_cg F p))⟩
    · refine ⟨r ++ [p], by show (if canon F p ∈ s.seen then _ else _) = _; rw [if_neg c, r1, List.length_append, List.length_singleton]; omega, fun a ha => ?_, ?_, fun x hx => ?_⟩
      · rcases List.mem_append.mp ha with ha | ha
        · obtain ⟨m', hm'⟩ := r2 a ha
          exact ⟨m', List.mem_append_left _ hm'⟩
        · rw [List.mem_singleton.mp ha]
          exact ⟨m, List.mem_append_right _ (List.mem_singleton.mpr rfl)⟩
      · rw [List.pairwise_append]
        refine ⟨r3, List.pairwise_singleton .., fun a ha b hb ho => ?_⟩
        rw [List.mem_singleton.mp hb] at ho
        obtain ⟨m', hm'⟩ := r2 a ha
        exact c ((I.mem _ hgd).mpr ⟨(a, m'), hm', OR.cg S ho (Cg.refl _) (canon_cg F p).symm⟩)
      · rcases List.mem_append.mp hx with hx | hx
        · obtain ⟨a, ha, hoa⟩ := r4 x hx
          exact ⟨a, List.mem_append_left _ ha, hoa⟩
        · rw [List.mem_singleton.mp hx]
          exact ⟨p, List.mem_append_right _ (List.mem_singleton.mpr rfl), OR.refl _⟩
theorem cntAll_ok {k : Nat} (hk : F.goals.length + 1 ≤ k) : ∀ (l done : List (P2 × Mir)) (s : Cnt), (∀ q ∈ l, q ∈ F.goals) → CInv F done s → ∃ s', cntAll F k s l = some s' ∧ CInv F (done ++ l) s' := by
  intro l
  induction l with
  | nil => intro done s _ I; exact ⟨s, rfl, by rw [List.append_nil]; exact I⟩
  | cons q l ih =>
    intro done s hl I
    obtain ⟨s1, e1, I1⟩ := cntStep_ok S I (hl q (List.mem_cons_self ..)) hk
    obtain ⟨s2, e2, I2⟩ := ih (done ++ [q]) s1 (fun q' h => hl q' (List.mem_cons_of_mem _ h)) I1
    refine ⟨s2, ?_, ?_⟩
    · show (match cntStep F k s q with | none => none | some s' => cntAll F k s' l) = some s2
      rw [e1]; exact e2
    · rw [List.append_assoc] at I2; exact I2
omit S in
theorem cnt_start : CInv F [] ⟨[], [], 0⟩ where
  seen := ⟨fun _ h => (List.not_mem_nil h).elim, List.nodup_nil⟩
  cl := fun _ h => (List.not_mem_nil h).elim
  mem := fun _ _ => ⟨fun h => (List.not_mem_nil h).elim, fun ⟨_, h, _⟩ => (List.not_mem_nil h).elim⟩
  mnd := List.nodup_nil
  met := fun _ => ⟨fun h => (List.not_mem_nil h).elim, fun ⟨_, h, _⟩ => (List.not_mem_nil h).elim⟩
  reps := ⟨[], rfl, fun _ h => (List.not_mem_nil h).elim, List.Pairwise.nil, fun _ h => (List.not_mem_nil h).elim⟩
theorem cnt_ok : ∃ s, cntAll F (F.goals.length + 1) ⟨[], [], 0⟩ F.goals = some s ∧ CInv F F.goals s := cntAll_ok S (Nat.le_refl _) F.goals [] _ (fun _ h => h) cnt_start
end
end Sd
end
section
/-! Boards, their frames, the eight turns. -/
namespace Sd
def goals4 (m : Mir) : List (P2 × Mir) := [((m.x, m.y), m), ((m.x, -m.y), m), ((-m.x, m.y), m), ((-m.x, -m.y), m)]
def frameOf (w h : Int) (ms : List Mir) : Fr := ⟨4 * w, 4 * h, (gcdf (4 * w) (4 * h)).1, (gcdf (4 * w) (4 * h)).2, ms.flatMap goals4⟩
structure MsOk (w h : Int) (ms : List Mir) : Prop where
  w0 : 1 ≤ w
  h0 : 1 ≤ h
  ins : ∀ m ∈ ms, 0 < m.x ∧ m.x < 2 * w ∧ 0 < m.y ∧ m.y < 2 * h ∧ (m.x + m.y) % 2 = 1
  uni : ∀ m ∈ ms, ∀ m' ∈ ms, m.x = m'.x → m.y = m'.y → m = m'
theorem mem_goals {w h : Int} {ms : List Mir} {q : P2} {m : Mir} : (q, m) ∈ (frameOf w h ms).goals ↔ (m ∈ ms ∧ (q.1 = m.x ∨ q.1 = -m.x) ∧ (q.2 = m.y ∨ q.2 = -m.y)) := by
  show (q, m) ∈ ms.flatMap goals4 ↔ _
  rw [List.mem_flatMap]
  obtain ⟨u, v⟩ := q
  constructor
  · rintro ⟨m', hm, hq⟩
    simp only [goals4, List.mem_cons, List.not_mem_nil, or_false, Prod.mk.injEq] at hq
    rcases hq with ⟨⟨rfl, rfl⟩, rfl⟩ | ⟨⟨rfl, rfl⟩, rfl⟩ | ⟨⟨rfl, rfl⟩, rfl⟩ | ⟨⟨rfl, rfl⟩, rfl⟩ <;> simp [hm]
  · rintro ⟨hm, h1, h2⟩
    refine ⟨m, hm, ?_⟩
    simp only [goals4, List.mem_cons, List.not_mem_nil, or_false, Prod.mk.injEq]
    simp only at h1 h2
    rcases h1 with rfl | rfl <;> rcases h2 with rfl | rfl <;> simp
theorem small_dvd {a z : Int} (h : a ∣ z) (h1 : -a < z) (h2 : z < a) : z = 0 := by
  obtain ⟨c, rfl⟩ := h
  have ha : 0 < a := by omega
  have : c = 0 := by
    rcases Int.lt_trichotomy c 0 with q | q | q
    · have : a * c ≤ a * (-1) := Int.mul_le_mul_of_nonneg_left (by omega) (by omega)
      omega
    · exact q
    · have : a * 1 ≤ a * c := Int.mul_le_mul_of_nonneg_left (by omega) (by omega)
      omega
  rw [this]; omega
theorem frameOf_ok {w h : Int} {ms : List Mir} (B : MsOk w h ms) : FrS (frameOf w h ms) where
  A0 := (by have := B.w0; omega : (0 : Int) < 4 * w)
  D0 := (by have := B.h0; omega : (0 : Int) < 4 * h)
  ok := gcdf_ok (a := 4 * w) (b := 4 * h) (by have := B.w0; omega) (by have := B.h0; omega)
  clo := by
    intro q m ly hq
    rw [mem_goals] at hq ⊢
    obtain ⟨a, b, c⟩ := hq
    cases ly
    · refine ⟨a, ?_, c⟩
      show (-q.1 = m.x ∨ -q.1 = -m.x)
      omega
    · refine ⟨a, b, ?_⟩
      show (-q.2 = m.y ∨ -q.2 = -m.y)
      omega
  uni := by
    intro q m q' m' hq hq' hc
    rw [mem_goals] at hq hq'
    obtain ⟨a, b, c⟩ := hq
    obtain ⟨a', b', c'⟩ := hq'
    have i := B.ins m a
    have i' := B.ins m' a'
    have h1 : (4 * w) ∣ q.1 - q'.1 := hc.a
    have h2 : (4 * h) ∣ q.2 - q'.2 := hc.d
    have e1 := small_dvd h1 (by omega) (by omega)
    have e2 := small_dvd h2 (by omega) (by omega)
    exact B.uni m a m' a' (by omega) (by omega)
/-! ### the turns -/
structure Tn where
  fx : Bool
  fy : Bool
  ex : Bool
/-- where a place goes -/
def mpt (t : Tn) (w h : Int) (p : P2) : P2 :=
  if t.ex then ((if t.fy then 2 * h - p.2 else p.2), (if t.fx then 2 * w - p.1 else p.1))
  else ((if t.fx then 2 * w - p.1 else p.1), (if t.fy then 2 * h - p.2 else p.2))
/-- where a square goes -/
def msq (t : Tn) (w h : Int) (p : P2) : P2 :=
  if t.ex then ((if t.fy then 2 * h - 1 - p.2 else p.2), (if t.fx then 2 * w - 1 - p.1 else p.1))
  else ((if t.fx then 2 * w - 1 - p.1 else p.1), (if t.fy then 2 * h - 1 - p.2 else p.2))
/-- where a pair goes -/
def tau (t : Tn) (w h : Int) (p : P2) : P2 :=
  if t.ex then ((if t.fy then p.2 + 2 * h else p.2), (if t.fx then p.1 + 2 * w else p.1))
  else ((if t.fx then p.1 + 2 * w else p.1), (if t.fy then p.2 + 2 * h else p.2))
def tmir (t : Tn) (w h : Int) (m : Mir) : Mir := ⟨(mpt t w h (m.x, m.y)).1, (mpt t w h (m.x, m.y)).2, if t.ex then !m.ly else m.ly⟩
def tw (t : Tn) (w h : Int) : Int := if t.ex then h else w
def th (t : Tn) (w h : Int) : Int := if t.ex then w else h
def TurnedMs (t : Tn) (w h : Int) (ms ms' : List Mir) : Prop := ∀ m', m' ∈ ms' ↔ ∃ m ∈ ms, m' = tmir t w h m
theorem turned_ok {t : Tn} {w h : Int} {ms ms' : List Mir} (B : MsOk w h ms) (T : TurnedMs t w h ms ms') : MsOk (tw t w h) (th t w h) ms' := by
  obtain ⟨fx, fy, ex⟩ := t
  have w0 := B.w0
  have h0 := B.h0
  refine ⟨by cases ex <;> simp [tw] <;> omega, by cases ex <;> simp [th] <;> omega, ?_, ?_⟩
  · intro m' hm'
    obtain ⟨m, hm, rfl⟩ := (T m').mp hm'
    have i := B.ins m hm
    cases fx <;> cases fy <;> cases ex <;> simp [tmir, mpt, tw, th] <;> omega
  · intro m1 h1 m2 h2 e1 e2
    obtain ⟨a, ha, rfl⟩ := (T m1).mp h1
    obtain ⟨b, hb, rfl⟩ := (T m2).mp h2
    have : a = b := by
      refine B.uni a ha b hb ?_ ?_
      · cases fx <;> cases fy <;> cases ex <;> simp [tmir, mpt] at e1 e2 <;> omega
      · cases fx <;> cases fy <;> cases ex <;> simp [tmir, mpt] at e1 e2 <;> omega
    rw [this]
theorem dvd_iff_of {a b c : Int} (e : b = c ∨ b = -c ∨ b = c + a ∨ b = c - a) : a ∣ b ↔ a ∣ c := by
  rcases e with rfl | rfl | rfl | rfl
  · exact Iff.rfl
  · exact Int.dvd_neg
  · exact ⟨fun h => dvd_sub' h (Int.dvd_refl a) (by omega), fun h => Int.dvd_add h (Int.dvd_refl a)⟩
  · exact ⟨fun h => dvd_add' h (Int.dvd_refl a) (by omega), fun h => Int.dvd_sub h (Int.dvd_refl a)⟩
section
variable {t : Tn} {w h : Int} {ms ms' : List Mir}
abbrev FA (w h : Int) (ms : List Mir) : Fr := frameOf w h ms
theorem cg_iff {w h : Int} {ms : List Mir} {p q : P2} : Cg (frameOf w h ms) p q ↔ ((4 * w) ∣ p.1 - q.1 ∧ (4 * h) ∣ p.2 - q.2) := ⟨fun c => ⟨c.a, c.d⟩, fun c => ⟨c.1, c.2⟩⟩
theorem tau_cg {p q : P2} : Cg (frameOf (tw t w h) (th t w h) ms') (tau t w h p) (tau t w h q) ↔ Cg (frameOf w h ms) p q := by
  rw [cg_iff, cg_iff]
  obtain ⟨fx, fy, ex⟩ := t
  have e1 : p.1 + 2 * w - (q.1 + 2 * w) = p.1 - q.1 := by omega
  have e2 : p.2 + 2 * h - (q.2 + 2 * h) = p.2 - q.2 := by omega
  cases fx <;> cases fy <;> cases ex <;> simp [tau, tw, th, e1, e2, and_comm]
theorem tau_shift (t : Tn) (w h : Int) (p : P2) (n : Int) : tau t w h (shift p n) = shift (tau t w h p) n := by
  obtain ⟨fx, fy, ex⟩ := t
  cases fx <;> cases fy <;> cases ex <;> simp [tau, shift] <;> omega
theorem tau_rev (t : Tn) (w h : Int) (ms' : List Mir) (p : P2) : Cg (frameOf (tw t w h) (th t w h) ms') (rev (tau t w h p)) (tau t w h (rev p)) := by
  rw [cg_iff]
  obtain ⟨fx, fy, ex⟩ := t
  have m : ∀ a b : Int, b = -a → a ∣ b := fun a b e => ⟨-1, by omega⟩
  have z : ∀ a b : Int, b = 0 → a ∣ b := fun a b e => ⟨0, by omega⟩
  cases fx <;> cases fy <;> cases ex <;> simp only [tau, tw, th, rev] <;> simp <;> (first | refine And.intro ?_ ?_ | skip) <;> first | exact m _ _ (by omega) | exact z _ _ (by omega)
theorem tau_rf (t : Tn) (w h : Int) (ms' : List Mir) (ly : Bool) (p : P2) : Cg (frameOf (tw t w h) (th t w h) ms') (rf (if t.ex then !ly else ly) (tau t w h p)) (tau t w h (rf ly p)) := by
  rw [cg_iff]
  obtain ⟨fx, fy, ex⟩ := t
  have m : ∀ a b : Int, b = -a → a ∣ b := fun a b e => ⟨-1, by omega⟩
  have z : ∀ a b : Int, b = 0 → a ∣ b := fun a b e => ⟨0, by omega⟩
  cases fx <;> cases fy <;> cases ex <;> cases ly <;> simp only [tau, tw, th, rf] <;> simp <;> (first | refine And.intro ?_ ?_ | skip) <;> first | exact m _ _ (by omega) | exact z _ _ (by omega)
end
section
variable {t : Tn} {w h : Int} {ms ms' : List Mir} (B : MsOk w h ms) (T : TurnedMs t w h ms ms')
include B T
theorem tau_at {p : P2} {m : Mir} (a : At (frameOf w h ms) p m) : At (frameOf (tw t w h) (th t w h) ms') (tau t w h p) (tmir t w h m) := by
  obtain ⟨q, hq, hc⟩ := a
  rw [mem_goals] at hq
  obtain ⟨hm, h1, h2⟩ := hq
  have key : ∃ q', (q', tmir t w h m) ∈ (frameOf (tw t w h) (th t w h) ms').goals ∧ Cg (frameOf (tw t w h) (th t w h) ms') (tau t w h q) q' := by
    have hm' : tmir t w h m ∈ ms' := (T _).mpr ⟨m, hm, rfl⟩
    obtain ⟨fx, fy, ex⟩ := t
    -- each coordinate: the new one, or its negative
    have c1 : ∀ (f : Bool) (w a x : Int), (a = x ∨ a = -x) → ∃ b, (b = (if f then 2 * w - x else x) ∨ b = -(if f then 2 * w - x else x)) ∧ (4 * w) ∣ (if f then a + 2 * w else a) - b := by
      intro f w a x hx
      cases f
      · exact ⟨a, by simpa using hx, by simp⟩
      · rcases hx with rfl | rfl
        · exact ⟨-(2 * w - a), by simp, ⟨1, by simp; omega⟩⟩
        · exact ⟨2 * w - x, by simp, ⟨0, by simp; omega⟩⟩
    obtain ⟨b1, g1, d1⟩ := c1 fx w q.1 m.x h1
    obtain ⟨b2, g2, d2⟩ := c1 fy h q.2 m.y h2
    cases ex
    · refine ⟨(b1, b2), mem_goals.mpr ⟨hm', by simpa [tmir, mpt] using g1, by simpa [tmir, mpt] using g2⟩, cg_iff.mpr ⟨by simpa [tau, tw] using d1, by simpa [tau, th] using d2⟩⟩
    · refine ⟨(b2, b1), mem_goals.mpr ⟨hm', by simpa [tmir, mpt] using g2, by simpa [tmir, mpt] using g1⟩, cg_iff.mpr ⟨by simpa [tau, tw] using d2, by simpa [tau, th] using d1⟩⟩
  obtain ⟨q', hq', hc'⟩ := key
  exact ⟨q', hq', (tau_cg (ms := ms).mpr hc).trans hc'⟩
theorem tau_at' {p : P2} {m' : Mir} (a : At (frameOf (tw t w h) (th t w h) ms') (tau t w h p) m') : ∃ m, At (frameOf w h ms) p m ∧ m' = tmir t w h m := by
  obtain ⟨q', hq', hc⟩ := a
  rw [mem_goals] at hq'
  obtain ⟨hm', h1, h2⟩ := hq'
  obtain ⟨m, hm, rfl⟩ := (T _).mp hm'
  refine ⟨m, ?_, rfl⟩
  have key : ∃ q, (q, m) ∈ (frameOf w h ms).goals ∧ Cg (frameOf (tw t w h) (th t w h) ms') (tau t w h q) q' := by
    obtain ⟨fx, fy, ex⟩ := t
    have c1 : ∀ (f : Bool) (w b x : Int), (b = (if f then 2 * w - x else x) ∨ b = -(if f then 2 * w - x else x)) → ∃ a, (a = x ∨ a = -x) ∧ (4 * w) ∣ (if f then a + 2 * w else a) - b := by
      intro f w b x hx
      cases f
      · exact ⟨b, by simpa using hx, by simp⟩
      · rcases hx with rfl | rfl
        · exact ⟨-x, by simp, ⟨0, by simp; omega⟩⟩
        · exact ⟨x, by simp, ⟨1, by simp; omega⟩⟩
    cases ex
    · obtain ⟨a1, g1, d1⟩ := c1 fx w q'.1 m.x (by simpa [tmir, mpt] using h1)
      obtain ⟨a2, g2, d2⟩ := c1 fy h q'.2 m.y (by simpa [tmir, mpt] using h2)
      exact ⟨(a1, a2), mem_goals.mpr ⟨hm, g1, g2⟩, cg_iff.mpr ⟨by simpa [tau, tw] using d1, by simpa [tau, th] using d2⟩⟩
    · obtain ⟨a1, g1, d1⟩ := c1 fx w q'.2 m.x (by simpa [tmir, mpt] using h2)
      obtain ⟨a2, g2, d2⟩ := c1 fy h q'.1 m.y (by simpa [tmir, mpt] using h1)
      exact ⟨(a1, a2), mem_goals.mpr ⟨hm, g1, g2⟩, cg_iff.mpr ⟨by simpa [tau, tw] using d2, by simpa [tau, th] using d1⟩⟩
  obtain ⟨q, hq, hc'⟩ := key
  exact ⟨q, hq, (tau_cg (ms' := ms')).mp (hc.trans hc'.symm)⟩
theorem tau_refl (p : P2) : Cg (frameOf (tw t w h) (th t w h) ms') (refl (frameOf (tw t w h) (th t w h) ms') (tau t w h p)) (tau t w h (refl (frameOf w h ms) p)) := by
  have S := frameOf_ok B
  have S' := frameOf_ok (turned_ok B T)
  by_cases hm : ∃ m, At (frameOf w h ms) p m
  · obtain ⟨m, hm⟩ := hm
    rw [refl_at S hm, refl_at S' (tau_at B T hm)]
    exact tau_rf t w h ms' m.ly p
  · have h1 : ∀ m, ¬ At (frameOf w h ms) p m := fun m q => hm ⟨m, q⟩
    have h2 : ∀ m, ¬ At (frameOf (tw t w h) (th t w h) ms') (tau t w h p) m := fun m q => by
      obtain ⟨m1, q1, _⟩ := tau_at' B T q
      exact h1 m1 q1
    rw [refl_not S h1, refl_not S' h2]
    exact Cg.refl _
theorem tau_nx (p : P2) : Cg (frameOf (tw t w h) (th t w h) ms') (nx (frameOf (tw t w h) (th t w h) ms') (tau t w h p)) (tau t w h (nx (frameOf w h ms) p)) := by
  unfold nx
  rw [tau_shift]
  exact (tau_refl B T p).shift 1
theorem tau_it (n : Nat) : ∀ p : P2, Cg (frameOf (tw t w h) (th t w h) ms') (it (frameOf (tw t w h) (th t w h) ms') n (tau t w h p)) (tau t w h (it (frameOf w h ms) n p)) := by
  have S' := frameOf_ok (turned_ok B T)
  induction n with
  | zero => intro p; exact Cg.refl _
  | succ n ih =>
    intro p
    exact (it_cg S' n (tau_nx B T p)).trans (ih _)
theorem tau_meets (n : Nat) (p q : P2) : Cg (frameOf (tw t w h) (th t w h) ms') (it (frameOf (tw t w h) (th t w h) ms') n (tau t w h p)) (tau t w h q) ↔ Cg (frameOf w h ms) (it (frameOf w h ms) n p) q := by
  constructor
  · intro c
    exact (tau_cg (ms' := ms')).mp ((tau_it B T n p).symm.trans c)
  · intro c
    exact (tau_it B T n p).trans ((tau_cg (ms := ms)).mpr c)
theorem tau_reach (p q : P2) : Reach (frameOf (tw t w h) (th t w h) ms') (tau t w h p) (tau t w h q) ↔ Reach (frameOf w h ms) p q :=
  ⟨fun ⟨n, c⟩ => ⟨n, (tau_meets B T n p q).mp c⟩, fun ⟨n, c⟩ => ⟨n, (tau_meets B T n p q).mpr c⟩⟩
omit B T in
theorem Least.cg {F : Fr} (S : FrS F) {p q : P2} {n : Nat} (l : Least F p n) (c : Cg F p q) : Least F q n :=
  ⟨⟨l.ret.1, ((it_cg S n c.symm).trans l.ret.2).trans c⟩, fun i a b h => l.min i a b (((it_cg S i c).trans h).trans c.symm)⟩
theorem tau_least {p : P2} {n : Nat} (l : Least (frameOf w h ms) p n) : Least (frameOf (tw t w h) (th t w h) ms') (tau t w h p) n :=
  ⟨⟨l.ret.1, (tau_meets B T n p p).mpr l.ret.2⟩, fun i a b c => l.min i a b ((tau_meets B T i p p).mp c)⟩
/-- equal up to the direction -/
def Or2 (F : Fr) (p q : P2) : Prop := Cg F p q ∨ Cg F p (rev q)
theorem turn_len {p p' : P2} (e : Or2 (frameOf (tw t w h) (th t w h) ms') p' (tau t w h p)) : farLen (frameOf (tw t w h) (th t w h) ms') p' = farLen (frameOf w h ms) p := by
  have S := frameOf_ok B
  have S' := frameOf_ok (turned_ok B T)
  obtain ⟨a, e1, h1⟩ := farLen_ok S p
  have h2 := tau_least B T h1
  have main : ∀ p', Cg (frameOf (tw t w h) (th t w h) ms') p' (tau t w h p) → farLen (frameOf (tw t w h) (th t w h) ms') p' = some (a : Int) := by
    intro p' c
    obtain ⟨b, e2, h3⟩ := farLen_ok S' p'
    rw [e2, Least.uni h3 (h2.cg S' c.symm)]
  rw [e1]
  rcases e with c | c
  · exact main p' c
  · rw [← farLen_rev S']
    refine main (rev p') ?_
    have := c.rev
    rwa [rev_rev] at this
theorem turn_tog {p q p' q' : P2} (e : Or2 (frameOf (tw t w h) (th t w h) ms') p' (tau t w h p)) (k : Or2 (frameOf (tw t w h) (th t w h) ms') q' (tau t w h q)) :
    farTog (frameOf (tw t w h) (th t w h) ms') p' q' (rev q') = farTog (frameOf w h ms) p q (rev q) := by
  have S := frameOf_ok B
  have S' := frameOf_ok (turned_ok B T)
  obtain ⟨a, e1, h1⟩ := farTog_ok S p q
  obtain ⟨b, e2, h2⟩ := farTog_ok S' p' q'
  rw [e1, e2]
  -- both ways of q'
  have swap : ∀ x y, (Reach (frameOf (tw t w h) (th t w h) ms') x y ∨ Reach (frameOf (tw t w h) (th t w h) ms') x (rev y)) → (Reach (frameOf (tw t w h) (th t w h) ms') (rev x) y ∨ Reach (frameOf (tw t w h) (th t w h) ms') (rev x) (rev y)) := by
    intro x y hxy
    rcases hxy with h | h
    · exact .inr (Reach.symm S' (Reach.revd S' h))
    · left
      have := Reach.symm S' (Reach.revd S' h)
      rwa [rev_rev] at this
  have side : ∀ x y y', Or2 (frameOf (tw t w h) (th t w h) ms') y' y → (Reach (frameOf (tw t w h) (th t w h) ms') x y ∨ Reach (frameOf (tw t w h) (th t w h) ms') x (rev y)) → (Reach (frameOf (tw t w h) (th t w h) ms') x y' ∨ Reach (frameOf (tw t w h) (th t w h) ms') x (rev y')) := by
    intro x y y' o hxy
    rcases o with c | c
    · rcases hxy with h | h
      · exact .inl (Reach.cg S' h (Cg.refl _) c.symm)
      · exact .inr (Reach.cg S' h (Cg.refl _) c.symm.rev)
    · rcases hxy with h | h
      · right
        have := c.rev
        rw [rev_rev] at this
        exact Reach.cg S' h (Cg.refl _) this.symm
      · exact .inl (Reach.cg S' h (Cg.refl _) c.symm)
  have from' : ∀ x x' y, Or2 (frameOf (tw t w h) (th t w h) ms') x' x → (Reach (frameOf (tw t w h) (th t w h) ms') x y ∨ Reach (frameOf (tw t w h) (th t w h) ms') x (rev y)) → (Reach (frameOf (tw t w h) (th t w h) ms') x' y ∨ Reach (frameOf (tw t w h) (th t w h) ms') x' (rev y)) := by
    intro x x' y o hxy
    rcases o with c | c
    · exact hxy.imp (fun h => Reach.cg S' h c.symm (Cg.refl _)) fun h => Reach.cg S' h c.symm (Cg.refl _)
    · exact (swap x y hxy).imp (fun h => Reach.cg S' h c.symm (Cg.refl _)) fun h => Reach.cg S' h c.symm (Cg.refl _)
  have osym : ∀ x y, Or2 (frameOf (tw t w h) (th t w h) ms') x y → Or2 (frameOf (tw t w h) (th t w h) ms') y x := by
    intro x y o
    rcases o with c | c
    · exact .inl c.symm
    · right
      have := c.rev
      rw [rev_rev] at this
      exact this.symm
  have bridge : (Reach (frameOf w h ms) p q ∨ Reach (frameOf w h ms) p (rev q)) ↔ (Reach (frameOf (tw t w h) (th t w h) ms') (tau t w h p) (tau t w h q) ∨ Reach (frameOf (tw t w h) (th t w h) ms') (tau t w h p) (rev (tau t w h q))) := by
    have r1 := tau_reach B T p q
    have r2 := tau_reach B T p (rev q)
    have c := tau_rev t w h ms' q
    constructor
    · rintro (x | x)
      · exact .inl (r1.mpr x)
      · exact .inr (Reach.cg S' (r2.mpr x) (Cg.refl _) c.symm)
    · rintro (x | x)
      · exact .inl (r1.mp x)
      · exact .inr (r2.mp (Reach.cg S' x (Cg.refl _) c))
  have : (b = true ↔ a = true) := by
    rw [h1, h2, bridge]
    constructor
    · intro x
      exact side _ _ _ (osym _ _ k) (from' _ _ _ (osym _ _ e) x)
    · intro x
      exact side _ _ _ k (from' _ _ _ e x)
  congr 1
  cases a <;> cases b <;> simp at this ⊢
theorem turn_go {p p' : P2} {s : Int} (hs : 0 ≤ s) (e : Cg (frameOf (tw t w h) (th t w h) ms') p' (tau t w h p)) :
    ∃ q q', goOn (frameOf w h ms) p s = some q ∧ goOn (frameOf (tw t w h) (th t w h) ms') p' s = some q' ∧ Cg (frameOf (tw t w h) (th t w h) ms') q' (tau t w h q) := by
  have S := frameOf_ok B
  have S' := frameOf_ok (turned_ok B T)
  obtain ⟨q, e1, h1⟩ := goOn_ok S p s hs
  obtain ⟨q', e2, h2⟩ := goOn_ok S' p' s hs
  refine ⟨q, q', e1, e2, ?_⟩
  have h3 := (it_cg S' s.toNat e).trans (tau_it B T s.toNat p)
  exact (h2.symm.trans h3).trans ((tau_cg (ms := ms)).mpr h1)
omit B T in
theorem gcdf_comm {a b : Int} (ha : 0 < a) (hb : 0 < b) : (gcdf a b).1 = (gcdf b a).1 := by
  have h1 := gcdf_ok ha hb
  have h2 := gcdf_ok hb ha
  exact dvd_anti h1.g0 h2.g0 (h2.great h1.gb h1.ga) (h1.great h2.gb h2.ga)
theorem turn_count : ∃ n, farCount (frameOf w h ms) = some n ∧ farCount (frameOf (tw t w h) (th t w h) ms') = some n := by
  have S := frameOf_ok B
  have S' := frameOf_ok (turned_ok B T)
  obtain ⟨s, e, I⟩ := cnt_ok S
  obtain ⟨s', e', I'⟩ := cnt_ok S'
  have hg : (frameOf (tw t w h) (th t w h) ms').g = (frameOf w h ms).g := by
    have w0 := B.w0
    have h0 := B.h0
    show (gcdf (4 * tw t w h) (4 * th t w h)).1 = (gcdf (4 * w) (4 * h)).1
    obtain ⟨fx, fy, ex⟩ := t
    cases ex
    · rfl
    · exact gcdf_comm (a := 4 * h) (b := 4 * w) (by omega) (by omega)
  -- goals and goals
  have G1 : ∀ q ∈ (frameOf w h ms).goals, ∃ q' ∈ (frameOf (tw t w h) (th t w h) ms').goals, Cg (frameOf (tw t w h) (th t w h) ms') (tau t w h q.1) q'.1 := by
    rintro ⟨q, m⟩ hq
    obtain ⟨q', hq', hc⟩ := tau_at B T (p := q) ⟨q, hq, Cg.refl _⟩
    exact ⟨(q', _), hq', hc⟩
  have G2 : ∀ q' ∈ (frameOf (tw t w h) (th t w h) ms').goals, ∃ q ∈ (frameOf w h ms).goals, Cg (frameOf (tw t w h) (th t w h) ms') (tau t w h q.1) q'.1 := by
    rintro ⟨q', m'⟩ hq'
    -- a pair that goes to q'
    obtain ⟨p, hp⟩ : ∃ p, tau t w h p = q' := by
      obtain ⟨fx, fy, ex⟩ := t
      cases ex
      · refine ⟨((if fx then q'.1 - 2 * w else q'.1), (if fy then q'.2 - 2 * h else q'.2)), ?_⟩
        cases fx <;> cases fy <;> simp [tau]
      · refine ⟨((if fx then q'.2 - 2 * w else q'.2), (if fy then q'.1 - 2 * h else q'.1)), ?_⟩
        cases fx <;> cases fy <;> simp [tau]
    have ha : At (frameOf (tw t w h) (th t w h) ms') (tau t w h p) m' := by rw [hp]; exact ⟨q', hq', Cg.refl _⟩
    obtain ⟨m, ⟨q, hq, hc⟩, _⟩ := tau_at' B T ha
    refine ⟨(q, m), hq, ?_⟩
    have := (tau_cg (t := t) (ms := ms) (ms' := ms')).mpr hc.symm
    rwa [hp] at this
  -- the classes
  have C : ∀ p q : P2, threadClass (frameOf w h ms) p = threadClass (frameOf w h ms) q ↔ threadClass (frameOf (tw t w h) (th t w h) ms') (tau t w h p) = threadClass (frameOf (tw t w h) (th t w h) ms') (tau t w h q) := by
    intro p q
    rw [class_eq S.toFrOk.ok.g0, class_eq S'.toFrOk.ok.g0, hg]
    have da : (frameOf w h ms).g ∣ 4 * w := S.toFrOk.ok.ga
    have db : (frameOf w h ms).g ∣ 4 * h := S.toFrOk.ok.gb
    generalize (frameOf w h ms).g = g at da db
    have aux : ∀ {x y c : Int}, g ∣ c → (y = x + c ∨ y = -(x + c)) → (g ∣ y ↔ g ∣ x) := by
      intro x y c hc e
      rcases e with e | e
      · subst e
        exact ⟨fun k => dvd_sub' k hc (by omega), fun k => Int.dvd_add k hc⟩
      · subst e
        rw [Int.dvd_neg]
        exact ⟨fun k => dvd_sub' k hc (by omega), fun k => Int.dvd_add k hc⟩
    have z : g ∣ 0 := ⟨0, by omega⟩
    have dab : g ∣ 4 * w - 4 * h := Int.dvd_sub da db
    have na : g ∣ -(4 * w) := Int.dvd_neg.mpr da
    have nb : g ∣ -(4 * h) := Int.dvd_neg.mpr db
    obtain ⟨fx, fy, ex⟩ := t
    refine or_congr ?_ ?_
    · cases fx <;> cases fy <;> cases ex <;> simp only [tau] <;> simp <;> exact (aux z (by omega)).symm
    · cases fx <;> cases fy <;> cases ex <;> simp only [tau] <;> simp <;> first
        | exact (aux z (by omega)).symm
        | exact (aux da (by omega)).symm
        | exact (aux db (by omega)).symm
        | exact (aux na (by omega)).symm
        | exact (aux nb (by omega)).symm
        | exact (aux dab (by omega)).symm
  have ccg : ∀ p q : P2, Cg (frameOf (tw t w h) (th t w h) ms') p q → threadClass (frameOf (tw t w h) (th t w h) ms') p = threadClass (frameOf (tw t w h) (th t w h) ms') q := by
    intro p q c
    rw [class_eq S'.toFrOk.ok.g0]
    left
    exact dvd_sub' (Int.dvd_trans S'.toFrOk.ok.ga c.a) (Int.dvd_trans S'.toFrOk.ok.gb c.d) (by omega)
  have M1 : s.met.length ≤ s'.met.length := by
    refine pigeon (fun c c' => ∃ q ∈ (frameOf w h ms).goals, threadClass (frameOf w h ms) q.1 = c ∧ threadClass (frameOf (tw t w h) (th t w h) ms') (tau t w h q.1) = c') _ _ (fun c hc => ?_) ?_
    · obtain ⟨q, hq, ec⟩ := (I.met c).mp hc
      obtain ⟨q', hq', hcg⟩ := G1 q hq
      exact ⟨_, (I'.met _).mpr ⟨q', hq', rfl⟩, q, hq, ec, ccg _ _ hcg⟩
    · refine List.Pairwise.imp ?_ I.mnd
      rintro a b hab ⟨c', ⟨q, _, e1, e2⟩, ⟨q2, _, e3, e4⟩⟩
      exact hab (by rw [← e1, ← e3]; exact (C _ _).mpr (e2.trans e4.symm))
  have M2 : s'.met.length ≤ s.met.length := by
    refine pigeon (fun c' c => ∃ q ∈ (frameOf w h ms).goals, threadClass (frameOf w h ms) q.1 = c ∧ threadClass (frameOf (tw t w h) (th t w h) ms') (tau t w h q.1) = c') _ _ (fun c' hc => ?_) ?_
    · obtain ⟨q', hq', ec⟩ := (I'.met c').mp hc
      obtain ⟨q, hq, hcg⟩ := G2 q' hq'
      exact ⟨_, (I.met _).mpr ⟨q, hq, rfl⟩, q, hq, rfl, (ccg _ _ hcg).trans ec⟩
    · refine List.Pairwise.imp ?_ I'.mnd
      rintro a b hab ⟨c, ⟨q, _, e1, e2⟩, ⟨q2, _, e3, e4⟩⟩
      exact hab (by rw [← e2, ← e4]; exact (C _ _).mp (e1.trans e3.symm))
  obtain ⟨r, r1, r2, r3, r4⟩ := I.reps
  obtain ⟨r', r1', r2', r3', r4'⟩ := I'.reps
  have O : ∀ p q : P2, OR (frameOf w h ms) p q ↔ OR (frameOf (tw t w h) (th t w h) ms') (tau t w h p) (tau t w h q) := by
    intro p q
    unfold OR
    rw [← tau_shift, ← tau_shift]
    exact (tau_reach B T _ _).symm
  have N1 : r.length ≤ r'.length := by
    refine pigeon (fun a a' => OR (frameOf (tw t w h) (th t w h) ms') a' (tau t w h a)) _ _ (fun a ha => ?_) ?_
    · obtain ⟨m, hm⟩ := r2 a ha
      obtain ⟨q', hq', hcg⟩ := G1 (a, m) hm
      obtain ⟨b, hb, ho⟩ := r4' q' hq'
      exact ⟨b, hb, OR.cg S' ho (Cg.refl _) hcg.symm⟩
    · refine List.Pairwise.imp ?_ r3
      rintro a b hab ⟨c, h1, h2⟩
      exact hab ((O _ _).mpr (OR.trans S' (OR.symm S' h1) h2))
  have N2 : r'.length ≤ r.length := by
    refine pigeon (fun a' a => OR (frameOf (tw t w h) (th t w h) ms') a' (tau t w h a)) _ _ (fun a' ha => ?_) ?_
    · obtain ⟨m', hm'⟩ := r2' a' ha
      obtain ⟨q, hq, hcg⟩ := G2 (a', m') hm'
      obtain ⟨b, hb, ho⟩ := r4 q hq
      exact ⟨b, hb, OR.symm S' (OR.cg S' ((O _ _).mp ho) (Cg.refl _) hcg)⟩
    · refine List.Pairwise.imp ?_ r3'
      rintro a b hab ⟨c, h1, h2⟩
      exact hab (OR.trans S' h1 (OR.symm S' h2))
  refine ⟨(frameOf w h ms).g / 4 - s.met.length + s.dir / 2, ?_, ?_⟩
  · unfold farCount; rw [e]; rfl
  · unfold farCount; rw [e']
    show some ((frameOf (tw t w h) (th t w h) ms').g / 4 - s'.met.length + s'.dir / 2) = _
    rw [hg, r1, r1', show s'.met.length = s.met.length by omega, show r'.length = r.length by omega]
end
end Sd
end
section
/-! Squares and points against pairs; what the law asks of the mirrored functions. -/
namespace Sd
def foldSq (size far : Int) : Int := pmin ((far - 1) % (4 * size)) (4 * size - 1 - (far - 1) % (4 * size))
def foldPt (size far : Int) : Int := pmin (far % (4 * size)) (4 * size - far % (4 * size))
def located (w h : Int) (p : P2) : P2 × P2 := ((foldSq w p.1, foldSq h p.2), (foldPt w p.1, foldPt h p.2))
def pts (s : P2) : P2 × P2 := if (s.1 + s.2) % 2 = 0 then ((s.1 + 1, s.2), (s.1, s.2 + 1)) else ((s.1, s.2), (s.1 + 1, s.2 + 1))
def unf (s p : P2) : P2 := ((if p.1 = s.1 then -p.1 else p.1), (if p.2 = s.2 then -p.2 else p.2))
theorem unf_rev (s : P2) : unf s (pts s).2 = rev (unf s (pts s).1) := by
  unfold pts
  split <;> simp [unf, rev] <;> omega
def OnB (w h : Int) (s : P2) : Prop := 0 ≤ s.1 ∧ s.1 < 2 * w ∧ 0 ≤ s.2 ∧ s.2 < 2 * h
def IsPt (s p : P2) : Prop := p = (pts s).1 ∨ p = (pts s).2
theorem isPt_iff (s p : P2) : IsPt s p ↔ ((p.1 = s.1 ∨ p.1 = s.1 + 1) ∧ (p.2 = s.2 ∨ p.2 = s.2 + 1) ∧ (p.1 + p.2) % 2 = 1) := by
  obtain ⟨x, y⟩ := p
  obtain ⟨i, j⟩ := s
  unfold IsPt pts
  by_cases c : (i + j) % 2 = 0
  · simp only [c, if_true, Prod.mk.injEq]
    omega
  · simp only [c, if_false, Prod.mk.injEq]
    omega
theorem unf_or {F : Fr} {s p : P2} (h : IsPt s p) : Or2 F (unf s (pts s).1) (unf s p) := by
  rcases h with rfl | rfl
  · exact .inl (Cg.refl _)
  · right
    rw [unf_rev, rev_rev]
    exact Cg.refl _
/-! ### one coordinate -/
theorem mod_of {a x r k : Int} (h : x = a * k + r) (h0 : 0 ≤ r) (h1 : r < a) : x % a = r := by
  rw [h, Int.add_comm, Int.add_mul_emod_self_left]
  exact Int.emod_eq_of_lt h0 h1
/-- remainder and the one before -/
theorem mod_cases (size far : Int) (hs : 1 ≤ size) : ∃ r, far % (4 * size) = r ∧ 0 ≤ r ∧ r < 4 * size ∧ (4 * size) ∣ far - r ∧ (far - 1) % (4 * size) = (if r = 0 then 4 * size - 1 else r - 1) := by
  have h0 := Int.emod_nonneg far (b := 4 * size) (by omega)
  have h1 := Int.emod_lt_of_pos far (b := 4 * size) (by omega)
  have hd : (4 * size) ∣ far - far % (4 * size) := Int.dvd_self_sub_emod
  refine ⟨_, rfl, h0, h1, hd, ?_⟩
  obtain ⟨k, hk⟩ := hd
  generalize far % (4 * size) = r at *
  by_cases c : r = 0
  · rw [if_pos c]
    refine mod_of (k := k - 1) (r := 4 * size - 1) ?_ (by omega) (by omega)
    rw [Int.mul_sub]; omega
  · rw [if_neg c]
    exact mod_of (k := k) (r := r - 1) (by omega) (by omega) (by omega)
theorem fold_cases (size far : Int) (hs : 1 ≤ size) : 0 ≤ foldSq size far ∧ foldSq size far < 2 * size ∧
    ((foldPt size far = foldSq size far + 1 ∧ (4 * size) ∣ far - foldPt size far) ∨ (foldPt size far = foldSq size far ∧ (4 * size) ∣ far + foldPt size far)) := by
  obtain ⟨r, e1, r0, r1, hd, e2⟩ := mod_cases size far hs
  unfold foldSq foldPt
  rw [e1, e2]
  by_cases c : r = 0
  · rw [if_pos c]
    subst c
    have : pmin (4 * size - 1) (4 * size - 1 - (4 * size - 1)) = 0 := by unfold pmin; split <;> omega
    rw [this]
    have : pmin 0 (4 * size - 0) = 0 := by unfold pmin; split <;> omega
    rw [this]
    exact ⟨by omega, by omega, .inr ⟨rfl, dvd_add' (c := 0) hd ⟨0, by omega⟩ (by omega)⟩⟩
  · rw [if_neg c]
    by_cases c2 : r ≤ 2 * size
    · have a1 : pmin (r - 1) (4 * size - 1 - (r - 1)) = r - 1 := by unfold pmin; split <;> omega
      have a2 : pmin r (4 * size - r) = r := by unfold pmin; split <;> omega
      rw [a1, a2]
      exact ⟨by omega, by omega, .inl ⟨by omega, hd⟩⟩
    · have a1 : pmin (r - 1) (4 * size - 1 - (r - 1)) = 4 * size - r := by unfold pmin; split <;> omega
      have a2 : pmin r (4 * size - r) = 4 * size - r := by unfold pmin; split <;> omega
      rw [a1, a2]
      exact ⟨by omega, by omega, .inr ⟨rfl, dvd_add' hd (Int.dvd_refl _) (by omega)⟩⟩
theorem fold_cg {size a b : Int} (h : (4 * size) ∣ a - b) : foldSq size a = foldSq size b ∧ foldPt size a = foldPt size b := by
  have e1 : a % (4 * size) = b % (4 * size) := Int.emod_eq_emod_iff_emod_sub_eq_zero.mpr (Int.emod_eq_zero_of_dvd h)
  have e2 : (a - 1) % (4 * size) = (b - 1) % (4 * size) := Int.emod_eq_emod_iff_emod_sub_eq_zero.mpr (Int.emod_eq_zero_of_dvd (by rwa [show a - 1 - (b - 1) = a - b by omega]))
  unfold foldSq foldPt
  rw [e1, e2]
  exact ⟨rfl, rfl⟩
theorem fold_shift (size far : Int) (hs : 1 ≤ size) : foldSq size (far + 2 * size) = 2 * size - 1 - foldSq size far ∧ foldPt size (far + 2 * size) = 2 * size - foldPt size far := by
  obtain ⟨r, e1, r0, r1, ⟨k, hk⟩, e2⟩ := mod_cases size far hs
  obtain ⟨r', e1', r0', r1', ⟨k', hk'⟩, e2'⟩ := mod_cases size (far + 2 * size) hs
  have hr : r' = r + 2 * size ∨ r' = r - 2 * size := by
    have : (4 * size) ∣ (r' - r - 2 * size) := ⟨k - k', by rw [Int.mul_sub]; omega⟩
    by_cases c : r < 2 * size
    · left
      have := small_dvd this (by omega) (by omega)
      omega
    · right
      have h2 : (4 * size) ∣ (r' - r + 2 * size) := dvd_add' this (Int.dvd_refl _) (by omega)
      have := small_dvd h2 (by omega) (by omega)
      omega
  unfold foldSq foldPt
  rw [e1, e2, e1', e2']
  constructor
  · unfold pmin
    repeat' split
    all_goals omega
  · unfold pmin
    split <;> split <;> omega
/-! ### places -/
theorem located_cg {w h : Int} {ms : List Mir} {p q : P2} (c : Cg (frameOf w h ms) p q) : located w h p = located w h q := by
  rw [cg_iff] at c
  unfold located
  rw [(fold_cg c.1).1, (fold_cg c.1).2, (fold_cg c.2).1, (fold_cg c.2).2]
theorem located_on {w h : Int} (hw : 1 ≤ w) (hh : 1 ≤ h) (p : P2) : OnB w h (located w h p).1 := by
  have a := fold_cases w p.1 hw
  have b := fold_cases h p.2 hh
  exact ⟨a.1, a.2.1, b.1, b.2.1⟩
theorem located_unf {w h : Int} (ms : List Mir) (hw : 1 ≤ w) (hh : 1 ≤ h) (p : P2) : Cg (frameOf w h ms) (unf (located w h p).1 (located w h p).2) p := by
  have a := fold_cases w p.1 hw
  have b := fold_cases h p.2 hh
  rw [cg_iff]
  constructor
  · show (4 * w) ∣ (if foldPt w p.1 = foldSq w p.1 then -foldPt w p.1 else foldPt w p.1) - p.1
    rcases a.2.2 with ⟨e, d⟩ | ⟨e, d⟩
    · rw [if_neg (by omega)]; exact dvd_neg' d (by omega)
    · rw [if_pos e]; exact dvd_neg' d (by omega)
  · show (4 * h) ∣ (if foldPt h p.2 = foldSq h p.2 then -foldPt h p.2 else foldPt h p.2) - p.2
    rcases b.2.2 with ⟨e, d⟩ | ⟨e, d⟩
    · rw [if_neg (by omega)]; exact dvd_neg' d (by omega)
    · rw [if_pos e]; exact dvd_neg' d (by omega)
theorem even_dvd {size z : Int} (h : (4 * size) ∣ z) : z % 2 = 0 := by
  obtain ⟨k, rfl⟩ := h
  rw [Int.mul_assoc]
  omega
theorem located_pt {w h : Int} (hw : 1 ≤ w) (hh : 1 ≤ h) (p : P2) (odd : (p.1 + p.2) % 2 = 1) : IsPt (located w h p).1 (located w h p).2 := by
  have a := fold_cases w p.1 hw
  have b := fold_cases h p.2 hh
  rw [isPt_iff]
  show (foldPt w p.1 = foldSq w p.1 ∨ foldPt w p.1 = foldSq w p.1 + 1) ∧ (foldPt h p.2 = foldSq h p.2 ∨ foldPt h p.2 = foldSq h p.2 + 1) ∧ (foldPt w p.1 + foldPt h p.2) % 2 = 1
  have e1 : (p.1 - foldPt w p.1) % 2 = 0 := by
    rcases a.2.2 with ⟨_, d⟩ | ⟨_, d⟩
    · exact even_dvd d
    · have := even_dvd d; omega
  have e2 : (p.2 - foldPt h p.2) % 2 = 0 := by
    rcases b.2.2 with ⟨_, d⟩ | ⟨_, d⟩
    · exact even_dvd d
    · have := even_dvd d; omega
  omega
/-- parity of a pair of a point -/
theorem unf_odd {s p : P2} (h : IsPt s p) : ((unf s p).1 + (unf s p).2) % 2 = 1 := by
  rw [isPt_iff] at h
  obtain ⟨_, _, h⟩ := h
  show ((if p.1 = s.1 then -p.1 else p.1) + (if p.2 = s.2 then -p.2 else p.2)) % 2 = 1
  split <;> split <;> omega
theorem pts_isPt1 (s : P2) : IsPt s (pts s).1 := .inl rfl
theorem pts_isPt2 (s : P2) : IsPt s (pts s).2 := .inr rfl
section
variable {t : Tn} {w h : Int}
theorem msq_on {s : P2} (o : OnB w h s) : OnB (tw t w h) (th t w h) (msq t w h s) := by
  obtain ⟨fx, fy, ex⟩ := t
  unfold OnB at *
  cases fx <;> cases fy <;> cases ex <;> simp [msq, tw, th] <;> omega
theorem mpt_isPt {s p : P2} (k : IsPt s p) : IsPt (msq t w h s) (mpt t w h p) := by
  rw [isPt_iff] at *
  obtain ⟨fx, fy, ex⟩ := t
  cases fx <;> cases fy <;> cases ex <;> simp [msq, mpt] <;> omega
theorem unf_turn {s p : P2} (ms' : List Mir) (k : IsPt s p) : Cg (frameOf (tw t w h) (th t w h) ms') (unf (msq t w h s) (mpt t w h p)) (tau t w h (unf s p)) := by
  rw [isPt_iff] at k
  rw [cg_iff]
  have one : ∀ (f : Bool) (w i x : Int), (x = i ∨ x = i + 1) → (4 * w) ∣ ((if (if f then 2 * w - x else x) = (if f then 2 * w - 1 - i else i) then -(if f then 2 * w - x else x) else (if f then 2 * w - x else x)) - (if f then (if x = i then -x else x) + 2 * w else (if x = i then -x else x))) := by
    intro f w i x hx
    cases f
    · simp
    · rcases hx with rfl | rfl
      · rw [if_pos rfl]
        simp only [if_true]
        rw [if_neg (by omega)]
        exact ⟨0, by omega⟩
      · simp only [if_true]
        rw [if_pos (by omega), if_neg (by omega)]
        exact ⟨-1, by omega⟩
  obtain ⟨fx, fy, ex⟩ := t
  have a := one fx w s.1 p.1 k.1
  have b := one fy h s.2 p.2 k.2.1
  cases ex
  · exact ⟨by simpa [unf, msq, mpt, tau, tw] using a, by simpa [unf, msq, mpt, tau, th] using b⟩
  · exact ⟨by simpa [unf, msq, mpt, tau, tw] using b, by simpa [unf, msq, mpt, tau, th] using a⟩
theorem located_turn (hw : 1 ≤ w) (hh : 1 ≤ h) (p : P2) : located (tw t w h) (th t w h) (tau t w h p) = (msq t w h (located w h p).1, mpt t w h (located w h p).2) := by
  have a := fold_shift w p.1 hw
  have b := fold_shift h p.2 hh
  obtain ⟨fx, fy, ex⟩ := t
  cases fx <;> cases fy <;> cases ex <;> simp [located, tau, msq, mpt, tw, th, a, b]
theorem unf_turn_or {s : P2} (ms' : List Mir) : Or2 (frameOf (tw t w h) (th t w h) ms') (unf (msq t w h s) (pts (msq t w h s)).1) (tau t w h (unf s (pts s).1)) := by
  have h1 := unf_turn (t := t) (w := w) (h := h) ms' (pts_isPt1 s)
  rcases unf_or (F := frameOf (tw t w h) (th t w h) ms') (mpt_isPt (t := t) (w := w) (h := h) (pts_isPt1 s)) with c | c
  · exact .inl (c.trans h1)
  · exact .inr (c.trans h1.rev)
end
/-! ### what the law asks of a turned board -/
section
variable {t : Tn} {w h : Int} {ms ms' : List Mir} (B : MsOk w h ms) (T : TurnedMs t w h ms ms')
include B T
theorem law_len (s : P2) : farLen (frameOf (tw t w h) (th t w h) ms') (unf (msq t w h s) (pts (msq t w h s)).1) = farLen (frameOf w h ms) (unf s (pts s).1) := turn_len B T (unf_turn_or ms')
theorem law_tog (s r : P2) : farTog (frameOf (tw t w h) (th t w h) ms') (unf (msq t w h s) (pts (msq t w h s)).1) (unf (msq t w h r) (pts (msq t w h r)).1) (unf (msq t w h r) (pts (msq t w h r)).2) =
    farTog (frameOf w h ms) (unf s (pts s).1) (unf r (pts r).1) (unf r (pts r).2) := by
  rw [unf_rev, unf_rev]
  exact turn_tog B T (unf_turn_or ms') (unf_turn_or ms')
theorem law_go {s p : P2} (k : IsPt s p) {n : Int} (hn : 0 ≤ n) : ∃ q q', goOn (frameOf w h ms) (unf s p) n = some q ∧ goOn (frameOf (tw t w h) (th t w h) ms') (unf (msq t w h s) (mpt t w h p)) n = some q' ∧
    located (tw t w h) (th t w h) q' = (msq t w h (located w h q).1, mpt t w h (located w h q).2) := by
  obtain ⟨q, q', e, e', c⟩ := turn_go B T hn (unf_turn (t := t) (w := w) (h := h) ms' k)
  exact ⟨q, q', e, e', (located_cg c).trans (located_turn B.w0 B.h0 q)⟩
end
/-! ### without mirrors -/
section
variable {w h : Int} (hw : 1 ≤ w) (hh : 1 ≤ h)
theorem bareOk (hw : 1 ≤ w) (hh : 1 ≤ h) : MsOk w h [] := ⟨hw, hh, fun _ k => (List.not_mem_nil k).elim, fun _ k => (List.not_mem_nil k).elim⟩
include hw hh
theorem bare_mirror (p : P2) : toMirror (frameOf w h []) p = none := rfl
/-- d: the greatest common divisor of the sides, by what it is -/
theorem bare_g {d : Int} (d0 : 0 < d) (dw : d ∣ w) (dh : d ∣ h) (great : ∀ e, e ∣ w → e ∣ h → e ∣ d) : (frameOf w h []).g = 4 * d := by
  have S := frameOf_ok (bareOk hw hh)
  have ok := S.toFrOk.ok
  have g4 : (4 : Int) ∣ (frameOf w h []).g := ok.great ⟨w, rfl⟩ ⟨h, rfl⟩
  obtain ⟨k, hk⟩ := g4
  have k0 : 0 < k := by have := ok.g0; omega
  have kw : k ∣ w := by
    have : 4 * k ∣ 4 * w := by rw [← hk]; exact ok.ga
    exact Int.dvd_of_mul_dvd_mul_left (by omega) this
  have kh : k ∣ h := by
    have : 4 * k ∣ 4 * h := by rw [← hk]; exact ok.gb
    exact Int.dvd_of_mul_dvd_mul_left (by omega) this
  have h1 := great k kw kh
  have h2 : 4 * d ∣ (frameOf w h []).g := ok.great (Int.mul_dvd_mul (Int.dvd_refl 4) dw) (Int.mul_dvd_mul (Int.dvd_refl 4) dh)
  rw [hk] at h2
  have h3 := Int.dvd_of_mul_dvd_mul_left (by omega) h2
  rw [hk, dvd_anti k0 d0 h1 h3]
theorem bare_count {d : Int} (d0 : 0 < d) (dw : d ∣ w) (dh : d ∣ h) (great : ∀ e, e ∣ w → e ∣ h → e ∣ d) : farCount (frameOf w h []) = some d := by
  show some ((frameOf w h []).g / 4 - 0 + 0 / 2) = some d
  rw [bare_g hw hh d0 dw dh great]
  congr 1
  omega
theorem bare_L {d : Int} (d0 : 0 < d) (dw : d ∣ w) (dh : d ∣ h) (great : ∀ e, e ∣ w → e ∣ h → e ∣ d) : (frameOf w h []).A * (frameOf w h []).D / (frameOf w h []).g = 4 * (w / d) * h := by
  rw [bare_g hw hh d0 dw dh great]
  show 4 * w * (4 * h) / (4 * d) = 4 * (w / d) * h
  obtain ⟨k, rfl⟩ := dw
  rw [Int.mul_ediv_cancel_left _ (by omega)]
  have : 4 * (d * k) * (4 * h) = 4 * d * (4 * k * h) := by
    simp only [Int.mul_assoc, Int.mul_comm, Int.mul_left_comm]
  rw [this]
  exact Int.mul_ediv_cancel_left _ (by omega)
theorem bare_len (p : P2) : farLen (frameOf w h []) p = some ((frameOf w h []).A * (frameOf w h []).D / (frameOf w h []).g) := by
  show some (lenOf [((frameOf w h []).A * (frameOf w h []).D / (frameOf w h []).g, none)]) = _
  congr 1
  simp [lenOf, sumL]
theorem bare_tog (p q r : P2) : farTog (frameOf w h []) p q r = some (decide (threadClass (frameOf w h []) p = threadClass (frameOf w h []) q)) := by
  show some (decide (toMirror (frameOf w h []) q = none) && decide (threadClass (frameOf w h []) p = threadClass (frameOf w h []) q)) = _
  rw [decide_eq_true (bare_mirror hw hh q)]
  rfl
theorem bare_go (p : P2) (n : Int) (hn : 0 ≤ n) : ∃ q, goOn (frameOf w h []) p n = some q ∧ located w h q = located w h (shift p n) := by
  have S := frameOf_ok (bareOk hw hh)
  obtain ⟨q, e, c⟩ := goOn_ok S p n hn
  refine ⟨q, e, located_cg (ms := []) ?_⟩
  rw [bare_it S (bare_mirror hw hh p), show ((n.toNat : Nat) : Int) = n by omega] at c
  exact c.symm
/-- the square that one comes to is on the thread -/
theorem bare_back {s p : P2} (k : IsPt s p) (n : Int) (hn : 0 ≤ n) : farTog (frameOf w h []) (unf (located w h (shift (unf s p) n)).1 (pts (located w h (shift (unf s p) n)).1).1) (unf s (pts s).1) (unf s (pts s).2) = some true := by
  have S := frameOf_ok (bareOk hw hh)
  rw [unf_rev]
  generalize hp : unf s p = u
  have odd : (u.1 + u.2) % 2 = 1 := by rw [← hp]; exact unf_odd k
  have odd2 : ((shift u n).1 + (shift u n).2) % 2 = 1 := by
    simp only [shift]; omega
  have h1 := located_unf (w := w) (h := h) [] hw hh (shift u n)
  have h2 := unf_or (F := frameOf w h []) (located_pt hw hh (shift u n) odd2)
  have h3 : Or2 (frameOf w h []) (unf s (pts s).1) u := by rw [← hp]; exact unf_or k
  obtain ⟨b, e, hb⟩ := farTog_ok S (unf (located w h (shift u n)).1 (pts (located w h (shift u n)).1).1) (unf s (pts s).1)
  rw [e]
  congr 1
  rw [hb]
  have r0 : Reach (frameOf w h []) (shift u n) u := by
    have : Reach (frameOf w h []) u (shift u n) := ⟨n.toNat, by
      rw [bare_it S (bare_mirror hw hh u), show ((n.toNat : Nat) : Int) = n by omega]
      exact Cg.refl _⟩
    exact Reach.symm S this
  have r1 := Reach.revd S r0
  have r2 := Reach.symm S r1
  generalize unf (located w h (shift u n)).1 (pts (located w h (shift u n)).1).1 = a at *
  generalize unf (located w h (shift u n)).1 (located w h (shift u n)).2 = c at *
  generalize unf s (pts s).1 = z at *
  -- a is shift u n or its reverse; z is u or its reverse
  have ha : Or2 (frameOf w h []) a (shift u n) := by
    rcases h2 with x | x
    · exact .inl (x.trans h1)
    · exact .inr (x.trans h1.rev)
  have rz : rev (rev u) = u := rev_rev u
  rcases ha with x | x <;> rcases h3 with y | y
  · exact .inl (Reach.cg S r0 x.symm y.symm)
  · right
    have := y.rev
    rw [rz] at this
    exact Reach.cg S r0 x.symm this.symm
  · right
    exact Reach.cg S r2 x.symm y.rev.symm
  · left
    exact Reach.cg S r2 x.symm y.symm
end
end Sd
end
section
namespace Hk
open PySem PySem.Spec PyProof.Rows L2 He
/-- one def: where it stands, its text, its names -/
structure DefG where
  at_ : PySem.W.Frag → Addr
  name : Str
  qual : Str
  st : Stmt
def DefG.val (d : DefG) : FnW := some (d.name, d.qual, defArgs d.st, .stmts (defBody d.st), defScope d.st, mainGlobals, [], builtinsNs)
def fnA (K : PySem.W.Frag) (a : Addr) : FnW := match K.lookup a with
  | some ⟨_, _, .func fd, _⟩ => some (fd.name, fd.qualname, fd.params, fd.body, fd.scope, fd.globals, fd.closure, fd.builtins)
  | _ => none
def DefG.ok (K : PySem.W.Frag) (d : DefG) : Bool := PySem.W.keepIn K (.ref (d.at_ K)) && (match K.lookup (d.at_ K) with
  | some ⟨_, _, .func fd, _⟩ => PySem.W.codeIn K fd.code d.qual && dflB K fd.defaults []
  | _ => false)
abbrev Fn (K : PySem.W.Frag) (x qual : Str) (st : Stmt) (f : Addr) (fd : FuncData) : Prop := FunD K x qual (defArgs st) (defBody st) (defScope st) [] [] f fd
theorem DefG.fn {K : PySem.W.Frag} {d : DefG} (e : fnA K (d.at_ K) = d.val) (c : d.ok K = true) : ∃ fd, Fn K d.name d.qual d.st (d.at_ K) fd := by
  obtain ⟨kp, c2⟩ := ba c
  unfold fnA at e
  cases q : K.lookup (d.at_ K) with
  | none =>
    rw [q] at c2
    cases c2
  | some o =>
    obtain ⟨oc, od, dt, osl⟩ := o
    rw [q] at c2 e
    cases dt with
    | func fd =>
      obtain ⟨n1, n2, n3, n4, n5, n6, n7, n8, n9, n10, n11, n12, n13, n14, n15⟩ := fd
      have e2 : (some (n1, n2, n3, n4, n5, n6, n7, n15) : FnW) = some (d.name, d.qual, defArgs d.st, .stmts (defBody d.st), defScope d.st, mainGlobals, [], builtinsNs) := e
      simp only [Option.some.injEq, Prod.mk.injEq] at e2
      obtain ⟨h1, h2, h3, h4, h5, h6, h7, h8⟩ := e2
      subst h1 h2 h3 h4 h5 h6 h7 h8
      obtain ⟨k1, k2⟩ := ba (show (PySem.W.codeIn K n13 d.qual && dflB K n8 []) = true from c2)
      exact ⟨_, ⟨oc, od, n8, n9, n10, n11, n12, n13, n14, osl, rfl, q, k1, dflB_ok k2, .inl rfl⟩, kp⟩
    | _ => cases c2
/-! ### a property -/
def prA (K : PySem.W.Frag) (C f : Str) : Addr := ma K (ga K C) f
def prG (K : PySem.W.Frag) (C f : Str) : Addr := match PySem.W.recIn K (prA K C f) "property" with
  | some (.ref g :: _) => g
  | _ => 0
def prB (K : PySem.W.Frag) (C f : Str) : Bool := eqO (PySem.W.findIn K (.ref (ga K C)) f) (some (some (.ref (prA K C f)))) && (eqO (PySem.W.specialIn K (.ref (prA K C f)) "__get__") (some (some (.builtin "property.__get__"))) &&
  (decide (PySem.W.takesIn K (.ref (prA K C f)) = some true) && (match PySem.W.recIn K (prA K C f) "property" with
    | some (.ref _ :: _) => true
    | _ => false)))
theorem prB_ok {K : PySem.W.Frag} {C f : Str} (h : prB K C f = true) : PropOf K (ga K C) f (prA K C f) (prG K C f) := by
  obtain ⟨h1, h⟩ := ba h
  obtain ⟨h2, h⟩ := ba h
  obtain ⟨h3, h4⟩ := ba h
  refine ⟨eqO_ok h1, eqO_ok h2, of_decide_eq_true h3, ?_⟩
  unfold prG
  cases e : PySem.W.recIn K (prA K C f) "property" with
  | none => rw [e] at h4; cases h4
  | some l =>
    rw [e] at h4
    cases l with
    | nil => cases h4
    | cons a r =>
      cases a with
      | ref g => exact ⟨r, rfl⟩
      | _ => cases h4
/-! ### the Hook -/
abbrev Al : Type := Bool × List FnW
def obs (fa : List Fa) (fn : List DefG) (ex : PySem.W.Frag → Bool) (K : PySem.W.Frag) : Al := ((fa.all fun f => f.ok K) && ((fn.all fun d => d.ok K) && ex K), fn.map fun d => fnA K (d.at_ K))
def val (fn : List DefG) : Al := (true, fn.map DefG.val)
def Says (fa : List Fa) (fn : List DefG) (ex : PySem.W.Frag → Bool) (K : PySem.W.Frag) : Prop := obs fa fn ex K = val fn
def obsAt (n : Nat) (fa : List Fa) (fn : List DefG) (ex : PySem.W.Frag → Bool) (g : Addr → Option Obj) : Al := obs fa fn ex (frG g (asD g n))
def hook (n : Nat) (fa : List Fa) (fn : List DefG) (ex : PySem.W.Frag → Bool) : PySem.W.Hook where
  α := Al
  obs := fun s => obsAt n fa fn ex s.heap.get?
  val := fun _ => val fn
  says := fun _ h => ∃ K : PySem.W.Frag, K.In h ∧ Says fa fn ex K
  of := fun _ _ e => ⟨_, frG_in, e⟩
  keeps := fun _ _ _ ⟨K, hK, c⟩ k => ⟨K, PySem.W.Frag.In.keeps hK k, c⟩
theorem obsAt_eq {n : Nat} {fa : List Fa} {fn : List DefG} {ex : PySem.W.Frag → Bool} {g : Addr → Option Obj} {s : Shared} (h : ∀ a, g a = s.heap.get? a) : obsAt n fa fn ex g = (hook n fa fn ex).obs s := by
  have e : g = s.heap.get? := funext h
  rw [e] <;> rfl
section
variable {fa : List Fa} {fn : List DefG} {ex : PySem.W.Frag → Bool} {K : PySem.W.Frag}
theorem Says.fact (c : Says fa fn ex K) {f : Fa} (h : f ∈ fa) : f.ok K = true := by
  have c1 := (ba (show ((fa.all fun f => f.ok K) && ((fn.all fun d => d.ok K) && ex K)) = true from congrArg (fun z : Al => z.1) c)).1
  exact List.all_eq_true.mp c1 f h
theorem Says.more (c : Says fa fn ex K) : ex K = true :=
  (ba (ba (show ((fa.all fun f => f.ok K) && ((fn.all fun d => d.ok K) && ex K)) = true from congrArg (fun z : Al => z.1) c)).2).2
theorem Says.def_ (c : Says fa fn ex K) (i : Nat) {d : DefG} (h : fn[i]? = some d := by rfl) : ∃ fd, Fn K d.name d.qual d.st (d.at_ K) fd := by
  have c2 := (ba (ba (show ((fa.all fun f => f.ok K) && ((fn.all fun d => d.ok K) && ex K)) = true from congrArg (fun z : Al => z.1) c)).2).1
  have e : fn.map (fun d => fnA K (d.at_ K)) = fn.map DefG.val := congrArg (fun z : Al => z.2) c
  have e2 : (fn.map fun d => fnA K (d.at_ K))[i]? = (fn.map DefG.val)[i]? := by rw [e]
  rw [List.getElem?_map, List.getElem?_map, h] at e2
  exact DefG.fn (Option.some.inj e2) (List.all_eq_true.mp c2 d (List.mem_of_getElem? h))
end
end Hk
end
section
/-! The row's statements by place. Printed by gen.py. -/
namespace Sw
open PySem L2
def top (i : Nat) : Stmt := PySem.Challenge.pw_sandthreads_k95_whole_bare_and_turned.main.body.getD i (.Pass ⟨0, 0, 0, 0⟩)
abbrev s_divisor_and_factor : Stmt := top 12
abbrev N_divisor_and_factor : List Str := ["one", "other", "rest", "factor", "next_rest", "next_factor", "times"]
theorem sc_divisor_and_factor : FnScope N_divisor_and_factor ["one", "other"] (defScope s_divisor_and_factor) := ⟨rfl, rfl, rfl, by decide +kernel, rfl, by decide +kernel, by decide +kernel⟩
abbrev s_frame_of : Stmt := top 13
abbrev N_frame_of : List Str := ["board", "across", "down", "divisor", "factor", "goals", "mirror", "x", "y"]
theorem sc_frame_of : FnScope N_frame_of ["board"] (defScope s_frame_of) := ⟨rfl, rfl, rfl, by decide +kernel, rfl, by decide +kernel, by decide +kernel⟩
abbrev s_steps_to : Stmt := top 14
abbrev N_steps_to : List Str := ["frame", "place", "goal", "across", "down", "divisor", "factor", "goals", "first", "second"]
theorem sc_steps_to : FnScope N_steps_to ["frame", "place", "goal"] (defScope s_steps_to) := ⟨rfl, rfl, rfl, by decide +kernel, rfl, by decide +kernel, by decide +kernel⟩
abbrev s_to_mirror : Stmt := top 15
abbrev N_to_mirror : List Str := ["frame", "place", "best", "goal", "steps"]
theorem sc_to_mirror : FnScope N_to_mirror ["frame", "place"] (defScope s_to_mirror) := ⟨rfl, rfl, rfl, by decide +kernel, rfl, by decide +kernel, by decide +kernel⟩
abbrev s_from_mirror : Stmt := top 16
abbrev N_from_mirror : List Str := ["frame", "place", "steps", "mirror"]
theorem sc_from_mirror : FnScope N_from_mirror ["frame", "place"] (defScope s_from_mirror) := ⟨rfl, rfl, rfl, by decide +kernel, rfl, by decide +kernel, by decide +kernel⟩
abbrev s_behind_mirror : Stmt := top 17
abbrev N_behind_mirror : List Str := ["place", "steps", "kind"]
theorem sc_behind_mirror : FnScope N_behind_mirror ["place", "steps", "kind"] (defScope s_behind_mirror) := ⟨rfl, rfl, rfl, by decide +kernel, rfl, by decide +kernel, by decide +kernel⟩
abbrev s_folded_square : Stmt := top 18
abbrev N_folded_square : List Str := ["size", "far", "before"]
theorem sc_folded_square : FnScope N_folded_square ["size", "far"] (defScope s_folded_square) := ⟨rfl, rfl, rfl, by decide +kernel, rfl, by decide +kernel, by decide +kernel⟩
abbrev s_folded_point : Stmt := top 19
abbrev N_folded_point : List Str := ["size", "far", "rest"]
theorem sc_folded_point : FnScope N_folded_point ["size", "far"] (defScope s_folded_point) := ⟨rfl, rfl, rfl, by decide +kernel, rfl, by decide +kernel, by decide +kernel⟩
abbrev s_located : Stmt := top 20
abbrev N_located : List Str := ["board", "place", "square"]
theorem sc_located : FnScope N_located ["board", "place"] (defScope s_located) := ⟨rfl, rfl, rfl, by decide +kernel, rfl, by decide +kernel, by decide +kernel⟩
abbrev s_points_of : Stmt := top 21
abbrev N_points_of : List Str := ["square", "i", "j"]
theorem sc_points_of : FnScope N_points_of ["square"] (defScope s_points_of) := ⟨rfl, rfl, rfl, by decide +kernel, rfl, by decide +kernel, by decide +kernel⟩
abbrev s_unfolded : Stmt := top 22
abbrev N_unfolded : List Str := ["square", "point", "u", "v"]
theorem sc_unfolded : FnScope N_unfolded ["square", "point"] (defScope s_unfolded) := ⟨rfl, rfl, rfl, by decide +kernel, rfl, by decide +kernel, by decide +kernel⟩
abbrev s_check_square : Stmt := top 23
abbrev N_check_square : List Str := ["board", "square", "i", "j"]
theorem sc_check_square : FnScope N_check_square ["board", "square"] (defScope s_check_square) := ⟨rfl, rfl, rfl, by decide +kernel, rfl, by decide +kernel, by decide +kernel⟩
abbrev s_check_way : Stmt := top 24
abbrev N_check_way : List Str := ["board", "square", "point"]
theorem sc_check_way : FnScope N_check_way ["board", "square", "point"] (defScope s_check_way) := ⟨rfl, rfl, rfl, by decide +kernel, rfl, by decide +kernel, by decide +kernel⟩
abbrev s_next_mirror : Stmt := top 25
abbrev N_next_mirror : List Str := ["board", "square", "point", "found"]
theorem sc_next_mirror : FnScope N_next_mirror ["board", "square", "point"] (defScope s_next_mirror) := ⟨rfl, rfl, rfl, by decide +kernel, rfl, by decide +kernel, by decide +kernel⟩
abbrev s_legs : Stmt := top 26
abbrev N_legs : List Str := ["frame", "start", "found", "told", "place", "steps", "mirror", "back"]
theorem sc_legs : FnScope N_legs ["frame", "start"] (defScope s_legs) := ⟨rfl, rfl, rfl, by decide +kernel, rfl, by decide +kernel, by decide +kernel⟩
abbrev s_stretches : Stmt := top 27
abbrev N_stretches : List Str := ["board", "square", "point", "told", "steps", "place", "mirror"]
theorem sc_stretches : FnScope N_stretches ["board", "square", "point"] (defScope s_stretches) := ⟨rfl, rfl, rfl, by decide +kernel, rfl, by decide +kernel, by decide +kernel⟩
abbrev s_far_length : Stmt := top 28
abbrev N_far_length : List Str := ["board", "square", "many", "place"]
theorem sc_far_length : FnScope N_far_length ["board", "square"] (defScope s_far_length) := ⟨rfl, rfl, rfl, by decide +kernel, rfl, by decide +kernel, by decide +kernel⟩
abbrev s_go_on : Stmt := top 29
abbrev N_go_on : List Str := ["board", "square", "point", "steps", "place", "parts", "many", "later", "mirror", "length", "left"]
theorem sc_go_on : FnScope N_go_on ["board", "square", "point", "steps"] (defScope s_go_on) := ⟨rfl, rfl, rfl, by decide +kernel, rfl, by decide +kernel, by decide +kernel⟩
abbrev s_thread_class : Stmt := top 30
abbrev N_thread_class : List Str := ["frame", "place", "rest"]
theorem sc_thread_class : FnScope N_thread_class ["frame", "place"] (defScope s_thread_class) := ⟨rfl, rfl, rfl, by decide +kernel, rfl, by decide +kernel, by decide +kernel⟩
abbrev s_far_together : Stmt := top 31
abbrev N_far_together : List Str := ["board", "one", "other", "frame", "place", "ways", "first", "many", "later", "mirror", "way", "steps", "point"]
theorem sc_far_together : FnScope N_far_together ["board", "one", "other"] (defScope s_far_together) := ⟨rfl, rfl, rfl, by decide +kernel, rfl, by decide +kernel, by decide +kernel⟩
abbrev s_far_count : Stmt := top 32
abbrev N_far_count : List Str := ["board", "frame", "across", "down", "met", "seen", "directed", "u", "v", "mirror", "place", "steps", "reached"]
theorem sc_far_count : FnScope N_far_count ["board"] (defScope s_far_count) := ⟨rfl, rfl, rfl, by decide +kernel, rfl, by decide +kernel, by decide +kernel⟩
abbrev s_is_inside : Stmt := top 37
abbrev N_is_inside : List Str := ["width", "height", "x", "y"]
theorem sc_is_inside : FnScope N_is_inside ["width", "height", "x", "y"] (defScope s_is_inside) := ⟨rfl, rfl, rfl, by decide +kernel, rfl, by decide +kernel, by decide +kernel⟩
abbrev s_check_mirror : Stmt := top 38
abbrev N_check_mirror : List Str := ["width", "height", "kinds", "mirror", "x", "y", "kind"]
theorem sc_check_mirror : FnScope N_check_mirror ["width", "height", "kinds", "mirror"] (defScope s_check_mirror) := ⟨rfl, rfl, rfl, by decide +kernel, rfl, by decide +kernel, by decide +kernel⟩
abbrev s_kinds_of : Stmt := top 39
abbrev N_kinds_of : List Str := ["width", "height", "mirrors", "kinds", "x", "y", "kind"]
theorem sc_kinds_of : FnScope N_kinds_of ["width", "height", "mirrors"] (defScope s_kinds_of) := ⟨rfl, rfl, rfl, by decide +kernel, rfl, by decide +kernel, by decide +kernel⟩
abbrev s_other_kind : Stmt := top 40
abbrev N_other_kind : List Str := ["kind"]
theorem sc_other_kind : FnScope N_other_kind ["kind"] (defScope s_other_kind) := ⟨rfl, rfl, rfl, by decide +kernel, rfl, by decide +kernel, by decide +kernel⟩
abbrev s_moved_place : Stmt := top 41
abbrev N_moved_place : List Str := ["way", "width", "height", "place", "x", "y"]
theorem sc_moved_place : FnScope N_moved_place ["way", "width", "height", "place"] (defScope s_moved_place) := ⟨rfl, rfl, rfl, by decide +kernel, rfl, by decide +kernel, by decide +kernel⟩
abbrev s_Board_init : Stmt := inClass (top 42) 0
abbrev N_Board_init : List Str := ["self", "width", "height", "mirrors"]
theorem sc_Board_init : FnScope N_Board_init ["self", "width", "height", "mirrors"] (defScope s_Board_init) := ⟨rfl, rfl, rfl, by decide +kernel, rfl, by decide +kernel, by decide +kernel⟩
abbrev s_Board_width : Stmt := inClass (top 42) 1
abbrev N_Board_width : List Str := ["self"]
theorem sc_Board_width : FnScope N_Board_width ["self"] (defScope s_Board_width) := ⟨rfl, rfl, rfl, by decide +kernel, rfl, by decide +kernel, by decide +kernel⟩
abbrev s_Board_height : Stmt := inClass (top 42) 2
abbrev N_Board_height : List Str := ["self"]
theorem sc_Board_height : FnScope N_Board_height ["self"] (defScope s_Board_height) := ⟨rfl, rfl, rfl, by decide +kernel, rfl, by decide +kernel, by decide +kernel⟩
abbrev s_Board_mirrors : Stmt := inClass (top 42) 3
abbrev N_Board_mirrors : List Str := ["self", "x", "y"]
theorem sc_Board_mirrors : FnScope N_Board_mirrors ["self"] (defScope s_Board_mirrors) := ⟨rfl, rfl, rfl, by decide +kernel, rfl, by decide +kernel, by decide +kernel⟩
abbrev s_Board_turned : Stmt := inClass (top 42) 9
abbrev N_Board_turned : List Str := ["self", "way", "sizes", "mirrors", "x", "y", "kind", "place"]
theorem sc_Board_turned : FnScope N_Board_turned ["self", "way"] (defScope s_Board_turned) := ⟨rfl, rfl, rfl, by decide +kernel, rfl, by decide +kernel, by decide +kernel⟩
abbrev s_law_well : Stmt := top 44
abbrev N_law_well : List Str := ["_law_cell", "_law_salt", "_law_prime", "_law_seed", "_law_number", "_law_k"]
theorem sc_law_well : FnScope N_law_well ["_law_cell", "_law_salt"] (defScope s_law_well) := ⟨rfl, rfl, rfl, by decide +kernel, rfl, by decide +kernel, by decide +kernel⟩
abbrev s_law_pick : Stmt := top 45
abbrev N_law_pick : List Str := ["_law_well_here", "_law_many", "_law_taken"]
theorem sc_law_pick : FnScope N_law_pick ["_law_well_here", "_law_many"] (defScope s_law_pick) := ⟨rfl, rfl, rfl, by decide +kernel, rfl, by decide +kernel, by decide +kernel⟩
abbrev s_law_same : Stmt := top 46
abbrev N_law_same : List Str := ["_law_found", "_law_due", "_law_k"]
theorem sc_law_same : FnScope N_law_same ["_law_found", "_law_due"] (defScope s_law_same) := ⟨rfl, rfl, rfl, by decide +kernel, rfl, by decide +kernel, by decide +kernel⟩
abbrev s_law_side : Stmt := top 47
abbrev N_law_side : List Str := ["_law_well_here", "_law_way", "_law_factor", "_law_sizes"]
theorem sc_law_side : FnScope N_law_side ["_law_well_here"] (defScope s_law_side) := ⟨rfl, rfl, rfl, by decide +kernel, rfl, by decide +kernel, by decide +kernel⟩
abbrev s_law_far : Stmt := top 48
abbrev N_law_far : List Str := ["_law_well_here", "_law_most", "_law_flat", "_law_many", "_law_sides", "_law_wide", "_law_high", "_law_kinds", "_law_x", "_law_y", "_law_k", "_law_kind", "_law_way"]
theorem sc_law_far : FnScope N_law_far ["_law_well_here", "_law_most"] (defScope s_law_far) := ⟨rfl, rfl, rfl, by decide +kernel, rfl, by decide +kernel, by decide +kernel⟩
abbrev s_law_mirrors : Stmt := top 49
abbrev N_law_mirrors : List Str := ["_law_kinds", "_law_x", "_law_y"]
theorem sc_law_mirrors : FnScope N_law_mirrors ["_law_kinds"] (defScope s_law_mirrors) := ⟨rfl, rfl, rfl, by decide +kernel, rfl, by decide +kernel, by decide +kernel⟩
abbrev s_law_points : Stmt := top 50
abbrev N_law_points : List Str := ["_law_here", "_law_i", "_law_j"]
theorem sc_law_points : FnScope N_law_points ["_law_here"] (defScope s_law_points) := ⟨rfl, rfl, rfl, by decide +kernel, rfl, by decide +kernel, by decide +kernel⟩
abbrev s_law_divisor : Stmt := top 51
abbrev N_law_divisor : List Str := ["_law_a", "_law_b", "_law_k", "_law_rest"]
theorem sc_law_divisor : FnScope N_law_divisor ["_law_a", "_law_b"] (defScope s_law_divisor) := ⟨rfl, rfl, rfl, by decide +kernel, rfl, by decide +kernel, by decide +kernel⟩
abbrev s_law_unfolded : Stmt := top 52
abbrev N_law_unfolded : List Str := ["_law_here", "_law_goal", "_law_u", "_law_v"]
theorem sc_law_unfolded : FnScope N_law_unfolded ["_law_here", "_law_goal"] (defScope s_law_unfolded) := ⟨rfl, rfl, rfl, by decide +kernel, rfl, by decide +kernel, by decide +kernel⟩
abbrev s_law_bare_step : Stmt := top 53
abbrev N_law_bare_step : List Str := ["_law_wide", "_law_high", "_law_here", "_law_goal", "_law_steps", "_law_square", "_law_point", "_law_lines", "_law_size", "_law_far_here", "_law_before", "_law_after"]
theorem sc_law_bare_step : FnScope N_law_bare_step ["_law_wide", "_law_high", "_law_here", "_law_goal", "_law_steps"] (defScope s_law_bare_step) := ⟨rfl, rfl, rfl, by decide +kernel, rfl, by decide +kernel, by decide +kernel⟩
abbrev s_law_bare : Stmt := top 54
abbrev N_law_bare : List Str := ["_law_board", "_law_wide", "_law_high", "_law_squares", "_law_many", "_law_divisor_here", "_law_length", "_law_here", "_law_near", "_law_rests", "_law_square", "_law_u", "_law_v", "_law_rest", "_law_goal", "_law_steps", "_law_due"]
theorem sc_law_bare : FnScope N_law_bare ["_law_board", "_law_wide", "_law_high", "_law_squares", "_law_many"] (defScope s_law_bare) := ⟨rfl, rfl, rfl, by decide +kernel, rfl, by decide +kernel, by decide +kernel⟩
abbrev s_law_moved : Stmt := top 55
abbrev N_law_moved : List Str := ["_law_way", "_law_wide", "_law_high", "_law_place", "_law_x", "_law_y", "_law_menu"]
theorem sc_law_moved : FnScope N_law_moved ["_law_way", "_law_wide", "_law_high", "_law_place"] (defScope s_law_moved) := ⟨rfl, rfl, rfl, by decide +kernel, rfl, by decide +kernel, by decide +kernel⟩
abbrev s_law_moved_square : Stmt := top 56
abbrev N_law_moved_square : List Str := ["_law_way", "_law_wide", "_law_high", "_law_here", "_law_one", "_law_two"]
theorem sc_law_moved_square : FnScope N_law_moved_square ["_law_way", "_law_wide", "_law_high", "_law_here"] (defScope s_law_moved_square) := ⟨rfl, rfl, rfl, by decide +kernel, rfl, by decide +kernel, by decide +kernel⟩
abbrev s_law_turned : Stmt := top 57
abbrev N_law_turned : List Str := ["_law_board", "_law_way", "_law_sides", "_law_squares", "_law_steps", "_law_wide", "_law_high", "_law_turned_here", "_law_here", "_law_near", "_law_there", "_law_other", "_law_goal", "_law_square", "_law_point", "_law_due"]
theorem sc_law_turned : FnScope N_law_turned ["_law_board", "_law_way", "_law_sides", "_law_squares", "_law_steps"] (defScope s_law_turned) := ⟨rfl, rfl, rfl, by decide +kernel, rfl, by decide +kernel, by decide +kernel⟩
abbrev s_law : Stmt := top 58
abbrev N_law : List Str := ["_law_script", "_law_cell", "_law_well_here", "_law_way", "_law_near", "_law_wide", "_law_high", "_law_squares", "_law_table", "_law_sides", "_law_kinds", "_law_others", "_law_many", "_law_k"]
theorem sc_law : FnScope N_law ["_law_script"] (defScope s_law) := ⟨rfl, rfl, rfl, by decide +kernel, rfl, by decide +kernel, by decide +kernel⟩
end Sw
-- divisor_and_factor [('one', 'local'), ('other', 'local'), ('rest', 'local'), ('factor', 'local'), ('next_rest', 'local'), ('next_factor', 'local'), ('times', 'local')]
-- frame_of [('board', 'local'), ('across', 'local'), ('down', 'local'), ('divisor', 'local'), ('factor', 'local'), ('goals', 'local'), ('mirror', 'local'), ('x', 'local'), ('y', 'local')]
-- steps_to [('frame', 'local'), ('place', 'local'), ('goal', 'local'), ('across', 'local'), ('down', 'local'), ('divisor', 'local'), ('factor', 'local'), ('goals', 'local'), ('first', 'local'), ('second', 'local')]
-- to_mirror [('frame', 'local'), ('place', 'local'), ('best', 'local'), ('goal', 'local'), ('steps', 'local')]
-- from_mirror [('frame', 'local'), ('place', 'local'), ('steps', 'local'), ('mirror', 'local')]
-- behind_mirror [('place', 'local'), ('steps', 'local'), ('kind', 'local')]
-- folded_square [('size', 'local'), ('far', 'local'), ('before', 'local')]
-- folded_point [('size', 'local'), ('far', 'local'), ('rest', 'local')]
-- located [('board', 'local'), ('place', 'local'), ('square', 'local')]
-- points_of [('square', 'local'), ('i', 'local'), ('j', 'local')]
-- unfolded [('square', 'local'), ('point', 'local'), ('u', 'local'), ('v', 'local')]
-- check_square [('board', 'local'), ('square', 'local'), ('i', 'local'), ('j', 'local')]
-- check_way [('board', 'local'), ('square', 'local'), ('point', 'local')]
-- next_mirror [('board', 'local'), ('square', 'local'), ('point', 'local'), ('found', 'local')]
-- legs [('frame', 'local'), ('start', 'local'), ('found', 'local'), ('told', 'local'), ('place', 'local'), ('steps', 'local'), ('mirror', 'local'), ('back', 'local')]
-- stretches [('board', 'local'), ('square', 'local'), ('point', 'local'), ('told', 'local'), ('steps', 'local'), ('place', 'local'), ('mirror', 'local')]
-- far_length [('board', 'local'), ('square', 'local'), ('many', 'own'), ('place', 'own')]
-- go_on [('board', 'local'), ('square', 'local'), ('point', 'local'), ('steps', 'local'), ('place', 'local'), ('parts', 'local'), ('many', 'local'), ('later', 'local'), ('mirror', 'local'), ('length', 'local'), ('left', 'local')]
-- thread_class [('frame', 'local'), ('place', 'local'), ('rest', 'local')]
-- far_together [('board', 'local'), ('one', 'local'), ('other', 'cell'), ('frame', 'local'), ('place', 'local'), ('ways', 'local'), ('first', 'local'), ('many', 'local'), ('later', 'local'), ('mirror', 'local'), ('way', 'local'), ('steps', 'local'), ('point', 'own')]
-- far_count [('board', 'local'), ('frame', 'local'), ('across', 'local'), ('down', 'local'), ('met', 'local'), ('seen', 'local'), ('directed', 'local'), ('u', 'local'), ('v', 'local'), ('mirror', 'local'), ('place', 'local'), ('steps', 'local'), ('reached', 'local')]
-- is_inside [('width', 'local'), ('height', 'local'), ('x', 'local'), ('y', 'local')]
-- check_mirror [('width', 'local'), ('height', 'local'), ('kinds', 'local'), ('mirror', 'local'), ('x', 'local'), ('y', 'local'), ('kind', 'local')]
-- kinds_of [('width', 'local'), ('height', 'local'), ('mirrors', 'local'), ('kinds', 'local'), ('x', 'local'), ('y', 'local'), ('kind', 'local')]
-- other_kind [('kind', 'local')]
-- moved_place [('way', 'local'), ('width', 'local'), ('height', 'local'), ('place', 'local'), ('x', 'local'), ('y', 'local')]
-- Board_init [('self', 'local'), ('width', 'local'), ('height', 'local'), ('mirrors', 'local')]
-- Board_width [('self', 'local')]
-- Board_height [('self', 'local')]
-- Board_mirrors [('self', 'cell'), ('x', 'own'), ('y', 'own')]
-- Board_turned [('self', 'local'), ('way', 'local'), ('sizes', 'local'), ('mirrors', 'local'), ('x', 'local'), ('y', 'local'), ('kind', 'local'), ('place', 'local')]
-- law_well [('_law_cell', 'local'), ('_law_salt', 'local'), ('_law_prime', 'local'), ('_law_seed', 'local'), ('_law_number', 'local'), ('_law_k', 'local')]
-- law_pick [('_law_well_here', 'local'), ('_law_many', 'local'), ('_law_taken', 'local')]
-- law_same [('_law_found', 'cell'), ('_law_due', 'cell'), ('_law_k', 'own')]
-- law_side [('_law_well_here', 'local'), ('_law_way', 'local'), ('_law_factor', 'local'), ('_law_sizes', 'local')]
-- law_far [('_law_well_here', 'local'), ('_law_most', 'local'), ('_law_flat', 'local'), ('_law_many', 'local'), ('_law_sides', 'local'), ('_law_wide', 'local'), ('_law_high', 'local'), ('_law_kinds', 'local'), ('_law_x', 'local'), ('_law_y', 'local'), ('_law_k', 'local'), ('_law_kind', 'local'), ('_law_way', 'local')]
-- law_mirrors [('_law_kinds', 'cell'), ('_law_x', 'own'), ('_law_y', 'own')]
-- law_points [('_law_here', 'local'), ('_law_i', 'local'), ('_law_j', 'local')]
-- law_divisor [('_law_a', 'local'), ('_law_b', 'local'), ('_law_k', 'local'), ('_law_rest', 'local')]
-- law_unfolded [('_law_here', 'local'), ('_law_goal', 'local'), ('_law_u', 'local'), ('_law_v', 'local')]
-- law_bare_step [('_law_wide', 'local'), ('_law_high', 'local'), ('_law_here', 'local'), ('_law_goal', 'local'), ('_law_steps', 'local'), ('_law_square', 'local'), ('_law_point', 'local'), ('_law_lines', 'local'), ('_law_size', 'local'), ('_law_far_here', 'local'), ('_law_before', 'local'), ('_law_after', 'local')]
-- law_bare [('_law_board', 'local'), ('_law_wide', 'local'), ('_law_high', 'local'), ('_law_squares', 'local'), ('_law_many', 'local'), ('_law_divisor_here', 'local'), ('_law_length', 'local'), ('_law_here', 'local'), ('_law_near', 'local'), ('_law_rests', 'local'), ('_law_square', 'local'), ('_law_u', 'local'), ('_law_v', 'local'), ('_law_rest', 'local'), ('_law_goal', 'local'), ('_law_steps', 'local'), ('_law_due', 'local')]
-- law_moved [('_law_way', 'local'), ('_law_wide', 'local'), ('_law_high', 'local'), ('_law_place', 'local'), ('_law_x', 'local'), ('_law_y', 'local'), ('_law_menu', 'local')]
-- law_moved_square [('_law_way', 'local'), ('_law_wide', 'local'), ('_law_high', 'local'), ('_law_here', 'local'), ('_law_one', 'local'), ('_law_two', 'local')]
-- law_turned [('_law_board', 'local'), ('_law_way', 'local'), ('_law_sides', 'local'), ('_law_squares', 'local'), ('_law_steps', 'local'), ('_law_wide', 'local'), ('_law_high', 'local'), ('_law_turned_here', 'local'), ('_law_here', 'local'), ('_law_near', 'local'), ('_law_there', 'local'), ('_law_other', 'local'), ('_law_goal', 'local'), ('_law_square', 'local'), ('_law_point', 'local'), ('_law_due', 'local')]
-- law [('_law_script', 'local'), ('_law_cell', 'local'), ('_law_well_here', 'cell'), ('_law_way', 'local'), ('_law_near', 'local'), ('_law_wide', 'cell'), ('_law_high', 'cell'), ('_law_squares', 'local'), ('_law_table', 'local'), ('_law_sides', 'local'), ('_law_kinds', 'local'), ('_law_others', 'local'), ('_law_many', 'local'), ('_law_k', 'own')]
end
section
/-! What the head is asked. Printed by gen.py. -/
namespace Sw
open PySem L2 He Hk
def fnL1 : List DefG := [⟨fun K => ga K "divisor_and_factor", "divisor_and_factor", "divisor_and_factor", s_divisor_and_factor⟩,
  ⟨fun K => ga K "frame_of", "frame_of", "frame_of", s_frame_of⟩,
  ⟨fun K => ga K "steps_to", "steps_to", "steps_to", s_steps_to⟩,
  ⟨fun K => ga K "to_mirror", "to_mirror", "to_mirror", s_to_mirror⟩,
  ⟨fun K => ga K "from_mirror", "from_mirror", "from_mirror", s_from_mirror⟩,
  ⟨fun K => ga K "behind_mirror", "behind_mirror", "behind_mirror", s_behind_mirror⟩,
  ⟨fun K => ga K "folded_square", "folded_square", "folded_square", s_folded_square⟩,
  ⟨fun K => ga K "folded_point", "folded_point", "folded_point", s_folded_point⟩,
  ⟨fun K => ga K "located", "located", "located", s_located⟩,
  ⟨fun K => ga K "points_of", "points_of", "points_of", s_points_of⟩,
  ⟨fun K => ga K "unfolded", "unfolded", "unfolded", s_unfolded⟩,
  ⟨fun K => ga K "check_square", "check_square", "check_square", s_check_square⟩,
  ⟨fun K => ga K "check_way", "check_way", "check_way", s_check_way⟩,
  ⟨fun K => ga K "next_mirror", "next_mirror", "next_mirror", s_next_mirror⟩,
  ⟨fun K => ga K "legs", "legs", "legs", s_legs⟩,
  ⟨fun K => ga K "stretches", "stretches", "stretches", s_stretches⟩,
  ⟨fun K => ga K "far_length", "far_length", "far_length", s_far_length⟩,
  ⟨fun K => ga K "go_on", "go_on", "go_on", s_go_on⟩,
  ⟨fun K => ga K "thread_class", "thread_class", "thread_class", s_thread_class⟩,
  ⟨fun K => ga K "far_together", "far_together", "far_together", s_far_together⟩,
  ⟨fun K => ga K "far_count", "far_count", "far_count", s_far_count⟩,
  ⟨fun K => ga K "is_inside", "is_inside", "is_inside", s_is_inside⟩,
  ⟨fun K => ga K "check_mirror", "check_mirror", "check_mirror", s_check_mirror⟩]
def fnL2 : List DefG := [⟨fun K => ga K "kinds_of", "kinds_of", "kinds_of", s_kinds_of⟩,
  ⟨fun K => ga K "other_kind", "other_kind", "other_kind", s_other_kind⟩,
  ⟨fun K => ga K "moved_place", "moved_place", "moved_place", s_moved_place⟩,
  ⟨fun K => ma K (ga K "Board") "__init__", "__init__", "Board.__init__", s_Board_init⟩,
  ⟨fun K => prG K "Board" "width", "width", "Board.width", s_Board_width⟩,
  ⟨fun K => prG K "Board" "height", "height", "Board.height", s_Board_height⟩,
  ⟨fun K => prG K "Board" "mirrors", "mirrors", "Board.mirrors", s_Board_mirrors⟩,
  ⟨fun K => ma K (ga K "Board") "turned", "turned", "Board.turned", s_Board_turned⟩,
  ⟨fun K => ga K "_law_well", "_law_well", "_law_well", s_law_well⟩,
  ⟨fun K => ga K "_law_pick", "_law_pick", "_law_pick", s_law_pick⟩,
  ⟨fun K => ga K "_law_same", "_law_same", "_law_same", s_law_same⟩,
  ⟨fun K => ga K "_law_side", "_law_side", "_law_side", s_law_side⟩,
  ⟨fun K => ga K "_law_far", "_law_far", "_law_far", s_law_far⟩,
  ⟨fun K => ga K "_law_mirrors", "_law_mirrors", "_law_mirrors", s_law_mirrors⟩,
  ⟨fun K => ga K "_law_points", "_law_points", "_law_points", s_law_points⟩,
  ⟨fun K => ga K "_law_divisor", "_law_divisor", "_law_divisor", s_law_divisor⟩,
  ⟨fun K => ga K "_law_unfolded", "_law_unfolded", "_law_unfolded", s_law_unfolded⟩,
  ⟨fun K => ga K "_law_bare_step", "_law_bare_step", "_law_bare_step", s_law_bare_step⟩,
  ⟨fun K => ga K "_law_bare", "_law_bare", "_law_bare", s_law_bare⟩,
  ⟨fun K => ga K "_law_moved", "_law_moved", "_law_moved", s_law_moved⟩,
  ⟨fun K => ga K "_law_moved_square", "_law_moved_square", "_law_moved_square", s_law_moved_square⟩,
  ⟨fun K => ga K "_law_turned", "_law_turned", "_law_turned", s_law_turned⟩,
  ⟨fun K => ga K "law", "law", "law", s_law⟩]
def fnL : List DefG := fnL1 ++ fnL2
def faL1 : List Fa := [.glo "divisor_and_factor", .glo "frame_of", .glo "steps_to", .glo "to_mirror", .glo "from_mirror", .glo "behind_mirror", .glo "folded_square", .glo "folded_point", .glo "located", .glo "points_of", .glo "unfolded", .glo "check_square", .glo "check_way", .glo "next_mirror", .glo "legs", .glo "stretches", .glo "far_length", .glo "go_on", .glo "thread_class", .glo "far_together", .glo "far_count", .glo "is_inside", .glo "check_mirror", .glo "kinds_of", .glo "other_kind", .glo "moved_place", .glo "_law_well", .glo "_law_pick", .glo "_law_same", .glo "_law_side"]
def faL2 : List Fa := [.glo "_law_far", .glo "_law_mirrors", .glo "_law_points", .glo "_law_divisor", .glo "_law_unfolded", .glo "_law_bare_step", .glo "_law_bare", .glo "_law_moved", .glo "_law_moved_square", .glo "_law_turned", .glo "law", .glo "Board", .cls "Board", .noat "Board" "wide", .noat "Board" "high", .noat "Board" "kinds", .mkr "Board", .meth "Board" "turned", .glo "KINDS", .glo "WAYS", .glo "EXCHANGING", .free "isinstance", .free "len", .free "min", .free "range", .free "sum", .free "sorted", .free "all", .free "int", .free "bool", .free "str", .free "list", .free "tuple"]
def faL : List Fa := faL1 ++ faL2
def exB (K : PySem.W.Frag) : Bool := tupB K "KINDS" [.str "-", .str "|"] && (tupB K "WAYS" [.str "same", .str "quarter", .str "half", .str "back", .str "flip", .str "mirror", .str "cross", .str "anti"] && (tupB K "EXCHANGING" [.str "quarter", .str "back", .str "cross", .str "anti"] && (prB K "Board" "width" && (prB K "Board" "height" && (prB K "Board" "mirrors")))))
/-- the places of the defs in fnL -/
abbrev ix_divisor_and_factor : Nat := 0
abbrev ix_frame_of : Nat := 1
abbrev ix_steps_to : Nat := 2
abbrev ix_to_mirror : Nat := 3
abbrev ix_from_mirror : Nat := 4
abbrev ix_behind_mirror : Nat := 5
abbrev ix_folded_square : Nat := 6
abbrev ix_folded_point : Nat := 7
abbrev ix_located : Nat := 8
abbrev ix_points_of : Nat := 9
abbrev ix_unfolded : Nat := 10
abbrev ix_check_square : Nat := 11
abbrev ix_check_way : Nat := 12
abbrev ix_next_mirror : Nat := 13
abbrev ix_legs : Nat := 14
abbrev ix_stretches : Nat := 15
abbrev ix_far_length : Nat := 16
abbrev ix_go_on : Nat := 17
abbrev ix_thread_class : Nat := 18
abbrev ix_far_together : Nat := 19
abbrev ix_far_count : Nat := 20
abbrev ix_is_inside : Nat := 21
abbrev ix_check_mirror : Nat := 22
abbrev ix_kinds_of : Nat := 23
abbrev ix_other_kind : Nat := 24
abbrev ix_moved_place : Nat := 25
abbrev ix_Board_init : Nat := 26
abbrev ix_Board_width : Nat := 27
abbrev ix_Board_height : Nat := 28
abbrev ix_Board_mirrors : Nat := 29
abbrev ix_Board_turned : Nat := 30
abbrev ix_law_well : Nat := 31
abbrev ix_law_pick : Nat := 32
abbrev ix_law_same : Nat := 33
abbrev ix_law_side : Nat := 34
abbrev ix_law_far : Nat := 35
abbrev ix_law_mirrors : Nat := 36
abbrev ix_law_points : Nat := 37
abbrev ix_law_divisor : Nat := 38
abbrev ix_law_unfolded : Nat := 39
abbrev ix_law_bare_step : Nat := 40
abbrev ix_law_bare : Nat := 41
abbrev ix_law_moved : Nat := 42
abbrev ix_law_moved_square : Nat := 43
abbrev ix_law_turned : Nat := 44
abbrev ix_law : Nat := 45
end Sw
namespace Sw
open PySem PySem.Spec PyProof.Rows L2
abbrev R : PySem.W.OpenRow := PySem.W.OpenLaw.row PySem.Challenge.rw_sandthreads_k95_whole_bare_and_turned
abbrev hk : PySem.W.Hook := Hk.hook 5 faL fnL exB
def ob (s : PySem.W.SharedT) : Hk.Al := Hk.obsAt 5 faL fnL exB (HandSHeadRun.getT s)
theorem ob_eq (s : PySem.W.SharedT) : ob s = hk.obs s.abs := Hk.obsAt_eq (HandSHeadRun.getT_eq s)
def names1 : List Str := ["_wall", "SandError", "InvalidSize", "InvalidPoint", "InvalidMirror", "InvalidSquare", "InvalidTurn", "InvalidNumber", "Taken", "NoMirror", "divisor_and_factor", "frame_of", "steps_to", "to_mirror", "from_mirror", "behind_mirror", "folded_square", "folded_point", "located", "points_of", "unfolded", "check_square", "check_way", "next_mirror", "legs", "stretches", "far_length", "go_on", "thread_class", "far_together"]
def names2 : List Str := ["far_count", "KINDS", "WAYS", "EXCHANGING", "is_inside", "check_mirror", "kinds_of", "other_kind", "moved_place", "Board", "_law_well", "_law_pick", "_law_same", "_law_side", "_law_far", "_law_mirrors", "_law_points", "_law_divisor", "_law_unfolded", "_law_bare_step", "_law_bare", "_law_moved", "_law_moved_square", "_law_turned"]
def namesA : List Str := names1 ++ names2
theorem run (w : World) : HandSHeadRun.RunEq R (PySem.W.view R.prog [58]) hk ob 6000 namesA w := by
  intro os
  kernel_rfl
end Sw
end
section
/-! A small logic over the hand layer for defs whose values are data: what stands in the slots, what runs give. -/
namespace Sw
open PySem L2
inductive D where
  | non
  | bl (b : Bool)
  | int (i : Int)
  | str (s : Str)
  | tup (ds : List D)
  | lst (ds : List D)
  | dic (kvs : List ((Int × Int) × Str))
  | brd (w h : Int) (kvs : List ((Int × Int) × Str))
/-- pairs of ints as keys -/
def kvT (kvs : List ((Int × Int) × V)) : List (List Key × V) := kvs.map fun q => ([Sum.inl q.1.1, Sum.inl q.1.2], q.2)
def kvS (kvs : List ((Int × Int) × Str)) : List (List Key × V) := kvT (kvs.map fun q => (q.1, V.str q.2))
/-- a board's fields -/
def flds (w h : Int) (d : Addr) : List (Str × V) := putF "kinds" (.ref d) (putF "high" (.int h) (putF "wide" (.int w) []))
def Ex (H H' : Hp) : Prop := ∀ a o, H a = some o → H' a = some o
theorem Ex.rfl' {H : Hp} : Ex H H := fun _ _ h => h
theorem Ex.trans {H H1 H2 : Hp} (a : Ex H H1) (b : Ex H1 H2) : Ex H H2 := fun x o h => b x o (a x o h)
theorem Ex.nn {H H' : Hp} (e : Ex H H') {p : Addr} (h : H' p = none) : H p = none := by
  cases q : H p with
  | none => rfl
  | some o => rw [e p o q] at h; cases h
theorem Ex.new {H : Hp} {p : Addr} {o : HO} (h : H p = none) : Ex H (upd H p o) := fun a u e => by
  rw [upd_ne (ne_of_none e h)]; exact e
section
variable (C : Addr) (G : Hp)
mutual
/-- v is the datum, by the heap G -/
def Rp : D → V → Prop
  | .non, v => v = .non
  | .bl b, v => v = .bl b
  | .int i, v => v = .int i
  | .str s, v => v = .str s
  | .tup ds, v => ∃ a vs, v = .ref a ∧ G a = some (.tup vs) ∧ RpL ds vs
  | .lst ds, v => ∃ a vs, v = .ref a ∧ G a = some (.lst vs) ∧ RpL ds vs
  | .dic kvs, v => ∃ a, v = .ref a ∧ G a = some (.dT (kvS kvs))
  | .brd w h kvs, v => ∃ a dx d, v = .ref a ∧ G a = some (.ins C dx (flds w h d)) ∧ G d = some (.dT (kvS kvs))
def RpL : List D → List V → Prop
  | [], vs => vs = []
  | d :: ds, vs => ∃ v r, vs = v :: r ∧ Rp d v ∧ RpL ds r
end
end
section
variable {C : Addr} {G G' : Hp}
mutual
theorem Rp.mono (e : Ex G G') : ∀ (d : D) (v : V), Rp C G d v → Rp C G' d v
  | .non, _, h => by simp only [Rp] at h ⊢; exact h
  | .bl _, _, h => by simp only [Rp] at h ⊢; exact h
  | .int _, _, h => by simp only [Rp] at h ⊢; exact h
  | .str _, _, h => by simp only [Rp] at h ⊢; exact h
  | .tup ds, _, h => by
    simp only [Rp] at h ⊢
    obtain ⟨a, vs, h1, h2, h3⟩ := h
    exact ⟨a, vs, h1, e _ _ h2, RpL.mono e ds vs h3⟩
  | .lst ds, _, h => by
    simp only [Rp] at h ⊢
    obtain ⟨a, vs, h1, h2, h3⟩ := h
    exact ⟨a, vs, h1, e _ _ h2, RpL.mono e ds vs h3⟩
  | .dic _, _, h => by
    simp only [Rp] at h ⊢
    obtain ⟨a, h1, h2⟩ := h
    exact ⟨a, h1, e _ _ h2⟩
  | .brd _ _ _, _, h => by
    simp only [Rp] at h ⊢
    obtain ⟨a, dx, d, h1, h2, h3⟩ := h
    exact ⟨a, dx, d, h1, e _ _ h2, e _ _ h3⟩
theorem RpL.mono (e : Ex G G') : ∀ (ds : List D) (vs : List V), RpL C G ds vs → RpL C G' ds vs
  | [], _, h => by simp only [RpL] at h ⊢; exact h
  | d :: ds, _, h => by
    simp only [RpL] at h ⊢
    obtain ⟨v, r, h1, h2, h3⟩ := h
    exact ⟨v, r, h1, Rp.mono e d v h2, RpL.mono e ds r h3⟩
end
theorem RpL.length : ∀ {ds : List D} {vs : List V}, RpL C G ds vs → vs.length = ds.length
  | [], _, h => by simp only [RpL] at h; rw [h]; rfl
  | d :: ds, _, h => by
    simp only [RpL] at h
    obtain ⟨v, r, h1, h2, h3⟩ := h
    rw [h1, List.length_cons, List.length_cons, RpL.length h3]
theorem RpL.get : ∀ {ds : List D} {vs : List V} {i : Nat} {d : D}, RpL C G ds vs → ds[i]? = some d → ∃ v, vs[i]? = some v ∧ Rp C G d v
  | [], _, _, _, _, e => by simp at e
  | d :: ds, _, 0, d', h, e => by
    simp only [RpL] at h
    obtain ⟨v, r, rfl, h2, h3⟩ := h
    simp at e
    subst e
    exact ⟨v, rfl, h2⟩
  | d :: ds, _, i + 1, d', h, e => by
    simp only [RpL] at h
    obtain ⟨v, r, rfl, h2, h3⟩ := h
    obtain ⟨v', a, b⟩ := RpL.get (i := i) h3 (by simpa using e)
    exact ⟨v', by simpa using a, b⟩
theorem RpL.get' : ∀ {ds : List D} {vs : List V} {i : Nat} {v : V}, RpL C G ds vs → vs[i]? = some v → ∃ d, ds[i]? = some d ∧ Rp C G d v := by
  intro ds vs i v h e
  have hi := (List.getElem?_eq_some_iff.mp e).1
  rw [h.length] at hi
  obtain ⟨v', a, b⟩ := h.get (List.getElem?_eq_getElem hi)
  rw [e] at a
  cases a
  exact ⟨_, List.getElem?_eq_getElem hi, b⟩
theorem RpL.append : ∀ {ds es : List D} {vs us : List V}, RpL C G ds vs → RpL C G es us → RpL C G (ds ++ es) (vs ++ us)
  | [], _, _, _, h, k => by simp only [RpL] at h; rw [h]; exact k
  | d :: ds, _, _, _, h, k => by
    simp only [RpL] at h
    obtain ⟨v, r, rfl, h2, h3⟩ := h
    show RpL C G (d :: (ds ++ _)) (v :: (r ++ _))
    simp only [RpL]
    exact ⟨v, _, rfl, h2, RpL.append h3 k⟩
theorem RpL.nil : RpL C G [] [] := by simp only [RpL]
theorem RpL.cons {d : D} {v : V} {ds : List D} {vs : List V} (h : Rp C G d v) (k : RpL C G ds vs) : RpL C G (d :: ds) (v :: vs) := by
  simp only [RpL]; exact ⟨v, vs, rfl, h, k⟩
theorem RpL.one {d : D} {v : V} (h : Rp C G d v) : RpL C G [d] [v] := .cons h .nil
theorem RpL.take : ∀ (n : Nat) {ds : List D} {vs : List V}, RpL C G ds vs → RpL C G (ds.take n) (vs.take n)
  | 0, _, _, _ => by simp only [List.take_zero]; exact .nil
  | n + 1, [], _, h => by simp only [RpL] at h; rw [h]; simp only [List.take_nil]; exact .nil
  | n + 1, d :: ds, _, h => by
    simp only [RpL] at h
    obtain ⟨v, r, rfl, h2, h3⟩ := h
    exact .cons h2 (RpL.take n h3)
theorem RpL.drop : ∀ (n : Nat) {ds : List D} {vs : List V}, RpL C G ds vs → RpL C G (ds.drop n) (vs.drop n)
  | 0, _, _, h => h
  | n + 1, [], _, h => by simp only [RpL] at h; rw [h]; simp only [List.drop_nil]; exact .nil
  | n + 1, d :: ds, _, h => by
    simp only [RpL] at h
    obtain ⟨v, r, rfl, h2, h3⟩ := h
    exact RpL.drop n h3
theorem RpL.ints : ∀ {ns : List Int} {vs : List V}, RpL C G (ns.map D.int) vs ↔ vs = ns.map V.int
  | [], vs => by simp only [List.map_nil, RpL]
  | n :: ns, vs => by
    simp only [List.map_cons, RpL, Rp]
    constructor
    · rintro ⟨v, r, rfl, rfl, h⟩
      rw [RpL.ints.mp h]
    · intro h
      exact ⟨_, _, h, rfl, RpL.ints.mpr rfl⟩
theorem RpL.bls : ∀ {ns : List Bool} {vs : List V}, RpL C G (ns.map D.bl) vs ↔ vs = ns.map V.bl
  | [], vs => by simp only [List.map_nil, RpL]
  | n :: ns, vs => by
    simp only [List.map_cons, RpL, Rp]
    constructor
    · rintro ⟨v, r, rfl, rfl, h⟩
      rw [RpL.bls.mp h]
    · intro h
      exact ⟨_, _, h, rfl, RpL.bls.mpr rfl⟩
theorem Rp.tupI {a : Addr} {vs : List V} {ds : List D} (h : G a = some (.tup vs)) (k : RpL C G ds vs) : Rp C G (.tup ds) (.ref a) := by
  simp only [Rp]; exact ⟨a, vs, rfl, h, k⟩
theorem Rp.lstI {a : Addr} {vs : List V} {ds : List D} (h : G a = some (.lst vs)) (k : RpL C G ds vs) : Rp C G (.lst ds) (.ref a) := by
  simp only [Rp]; exact ⟨a, vs, rfl, h, k⟩
def D.isNon : D → Bool
  | .non => true
  | _ => false
theorem Rp.isNon {d : D} {v : V} (h : Rp C G d v) : decide (v = .non) = d.isNon := by
  cases d <;> simp only [Rp] at h
  case non => subst h; rfl
  case bl => subst h; rfl
  case int => subst h; rfl
  case str => subst h; rfl
  case tup => obtain ⟨a, vs, rfl, _⟩ := h; rfl
  case lst => obtain ⟨a, vs, rfl, _⟩ := h; rfl
  case dic => obtain ⟨a, rfl, _⟩ := h; rfl
  case brd => obtain ⟨a, dx, d, rfl, _⟩ := h; rfl
end
/-! ### the slots -/
/-- what a slot holds: no: not told; p: a datum; oL: a list of the def's own, changed by it alone; cel: the same at a known place; oI, oT: dicts of its own -/
inductive Sl where
  | no
  | p (d : D)
  | oL (ds : List D)
  | cel (a : Addr) (ds : List D)
  | oI (ks : List Int)
  | oT (kvs : List ((Int × Int) × V))
  | celT (a : Addr) (kvs : List ((Int × Int) × V))
  | oD (kvs : List (Str × D))
def Sl.own : Sl → Bool
  | .no => false
  | .p _ => false
  | _ => true
def SlOk (C : Addr) (G H : Hp) : Sl → Option V → Prop
  | .no, _ => True
  | .p d, o => ∃ v, o = some v ∧ Rp C G d v
  | .oL ds, o => ∃ a vs, o = some (.ref a) ∧ G a = none ∧ H a = some (.lst vs) ∧ RpL C G ds vs
  | .cel a ds, o => o = some (.ref a) ∧ G a = none ∧ ∃ vs, H a = some (.lst vs) ∧ RpL C G ds vs
  | .oI ks, o => ∃ a, o = some (.ref a) ∧ G a = none ∧ H a = some (.dK (ks.map fun k => (Sum.inl k, V.bl true)))
  | .oT kvs, o => ∃ a, o = some (.ref a) ∧ G a = none ∧ H a = some (.dT (kvT kvs))
  | .celT a kvs, o => o = some (.ref a) ∧ G a = none ∧ H a = some (.dT (kvT kvs))
  | .oD kvs, o => ∃ a us, o = some (.ref a) ∧ G a = none ∧ H a = some (.dK us) ∧ us.map (·.1) = kvs.map (fun q => (Sum.inr q.1 : Key)) ∧ RpL C G (kvs.map (·.2)) (us.map (·.2))
abbrev Es := List Sl
abbrev St := List (Option V)
/-- an address of an own slot -/
def Ow (es : List Sl) (σ : List (Option V)) (a : Addr) : Prop := ∃ (i : Nat) (s : Sl), es[i]? = some s ∧ s.own = true ∧ σ[i]? = some (some (.ref a))
structure SR (C : Addr) (G H : Hp) (es : Es) (σ : St) : Prop where
  gh : Ex G H
  len : σ.length = es.length
  ok : ∀ (i : Nat) (s : Sl), es[i]? = some s → ∃ o, σ[i]? = some o ∧ SlOk C G H s o
  one : ∀ (i j : Nat) (s t : Sl) (a : Addr), es[i]? = some s → es[j]? = some t → s.own = true → t.own = true → σ[i]? = some (some (.ref a)) → σ[j]? = some (some (.ref a)) → i = j
structure Rel (G H : Hp) (es : Es) (σ : St) (G' H' : Hp) (es' : Es) (σ' : St) : Prop where
  gx : Ex G G'
  kp : ∀ a, G a = none → H a ≠ none → ¬ Ow es σ a → H' a = H a ∧ G' a = none ∧ ¬ Ow es' σ' a
theorem Rel.refl {G H : Hp} {es : Es} {σ : St} : Rel G H es σ G H es σ := ⟨Ex.rfl', fun _ h _ k => ⟨rfl, h, k⟩⟩
theorem Rel.trans {G H G1 H1 G2 H2 : Hp} {es e1 e2 : Es} {σ σ1 σ2 : St} (a : Rel G H es σ G1 H1 e1 σ1) (b : Rel G1 H1 e1 σ1 G2 H2 e2 σ2) : Rel G H es σ G2 H2 e2 σ2 :=
  ⟨a.gx.trans b.gx, fun x h1 h2 h3 => by
    obtain ⟨p, q, r⟩ := a.kp x h1 h2 h3
    obtain ⟨p', q', r'⟩ := b.kp x q (by rw [p]; exact h2) r
    exact ⟨p'.trans p, q', r'⟩⟩
/-- nothing of anyone's own is changed -/
structure Step (G H G' H' : Hp) : Prop where
  gx : Ex G G'
  gh : Ex G' H'
  kp : ∀ a, G a = none → H a ≠ none → H' a = H a ∧ G' a = none
theorem Step.refl {G H : Hp} (h : Ex G H) : Step G H G H := ⟨Ex.rfl', h, fun _ k _ => ⟨rfl, k⟩⟩
theorem Step.trans {G H G1 H1 G2 H2 : Hp} (a : Step G H G1 H1) (b : Step G1 H1 G2 H2) : Step G H G2 H2 :=
  ⟨a.gx.trans b.gx, b.gh, fun x h1 h2 => by
    obtain ⟨p, q⟩ := a.kp x h1 h2
    obtain ⟨p', q'⟩ := b.kp x q (by rw [p]; exact h2)
    exact ⟨p'.trans p, q'⟩⟩
/-- a new thing, known from now on -/
theorem Step.new {G H : Hp} (e : Ex G H) {p : Addr} (h : H p = none) (o : HO) : Step G H (upd G p o) (upd H p o) :=
  ⟨Ex.new (e.nn h), fun a u q => by
    by_cases c : a = p
    · subst c; rw [upd_same] at q ⊢; exact q
    · rw [upd_ne c] at q ⊢; exact e a u q, fun a h1 h2 => by
    have c : a ≠ p := fun q => h2 (by rw [q]; exact h)
    rw [upd_ne c, upd_ne c]
    exact ⟨rfl, h1⟩⟩
section
variable {C : Addr} {G H G' H' : Hp} {es es' : Es} {σ σ' : St}
theorem SlOk.step {s : Sl} {o : Option V} (t : Step G H G' H') (h : SlOk C G H s o) : SlOk C G' H' s o := by
  have kp : ∀ {a : Addr} {u : HO}, G a = none → H a = some u → G' a = none ∧ H' a = some u := fun {a u} h1 h2 => by
    obtain ⟨p, q⟩ := t.kp a h1 (by rw [h2]; exact Option.some_ne_none u)
    exact ⟨q, p.trans h2⟩
  cases s with
  | no => trivial
  | p d => obtain ⟨v, e, r⟩ := h; exact ⟨v, e, r.mono t.gx⟩
  | oL ds => obtain ⟨a, vs, e, h1, h2, r⟩ := h; exact ⟨a, vs, e, (kp h1 h2).1, (kp h1 h2).2, r.mono t.gx⟩
  | cel a ds => obtain ⟨e, h1, vs, h2, r⟩ := h; exact ⟨e, (kp h1 h2).1, vs, (kp h1 h2).2, r.mono t.gx⟩
  | oI ks => obtain ⟨a, e, h1, h2⟩ := h; exact ⟨a, e, (kp h1 h2).1, (kp h1 h2).2⟩
  | oT kvs => obtain ⟨a, e, h1, h2⟩ := h; exact ⟨a, e, (kp h1 h2).1, (kp h1 h2).2⟩
  | celT a kvs => obtain ⟨e, h1, h2⟩ := h; exact ⟨e, (kp h1 h2).1, (kp h1 h2).2⟩
  | oD kds => obtain ⟨a, vs, e, h1, h2, hk, r⟩ := h; exact ⟨a, vs, e, (kp h1 h2).1, (kp h1 h2).2, hk, r.mono t.gx⟩
theorem SR.step (r : SR C G H es σ) (t : Step G H G' H') : SR C G' H' es σ :=
  ⟨t.gh, r.len, fun i s e => by
    obtain ⟨o, e1, h⟩ := r.ok i s e
    exact ⟨o, e1, h.step t⟩, r.one⟩
theorem Step.rel (t : Step G H G' H') : Rel G H es σ G' H' es σ := ⟨t.gx, fun a h1 h2 h3 => ⟨(t.kp a h1 h2).1, (t.kp a h1 h2).2, h3⟩⟩
theorem SlOk.adr {s : Sl} {o : Option V} (h : SlOk C G H s o) (w : s.own = true) : ∃ a u, o = some (.ref a) ∧ G a = none ∧ H a = some u := by
  cases s with
  | no => cases w
  | p d => cases w
  | oL ds => obtain ⟨a, vs, e, h1, h2, r⟩ := h; exact ⟨a, _, e, h1, h2⟩
  | cel a ds => obtain ⟨e, h1, vs, h2, r⟩ := h; exact ⟨a, _, e, h1, h2⟩
  | oI ks => obtain ⟨a, e, h1, h2⟩ := h; exact ⟨a, _, e, h1, h2⟩
  | oT kvs => obtain ⟨a, e, h1, h2⟩ := h; exact ⟨a, _, e, h1, h2⟩
  | celT a kvs => obtain ⟨e, h1, h2⟩ := h; exact ⟨a, _, e, h1, h2⟩
  | oD kds => obtain ⟨a, vs, e, h1, h2, hk, r⟩ := h; exact ⟨a, _, e, h1, h2⟩
theorem set_get {α : Type} {l : List α} {i j : Nat} {x y : α} (h : (l.set i x)[j]? = some y) : (j = i ∧ y = x ∧ i < l.length) ∨ (j ≠ i ∧ l[j]? = some y) := by
  by_cases c : j = i
  · subst c
    have hl : j < (l.set j x).length := (List.getElem?_eq_some_iff.mp h).1
    rw [List.length_set] at hl
    rw [List.getElem?_set_self hl] at h
    cases h
    exact .inl ⟨rfl, rfl, hl⟩
  · rw [List.getElem?_set_ne (Ne.symm c)] at h
    exact .inr ⟨c, h⟩
/-- a slot takes a datum -/
theorem SR.setP {i : Nat} {d : D} {v : V} (r : SR C G H es σ) (h : Rp C G d v) : SR C G H (es.set i (.p d)) (σ.set i (some v)) := by
  refine ⟨r.gh, by rw [List.length_set, List.length_set, r.len], fun j s e => ?_, fun j k s t a e1 e2 o1 o2 e3 e4 => ?_⟩
  · rcases set_get e with ⟨rfl, rfl, hl⟩ | ⟨c, e⟩
    · exact ⟨some v, List.getElem?_set_self (by rw [r.len]; exact hl), v, rfl, h⟩
    · rw [List.getElem?_set_ne (Ne.symm c)]
      exact r.ok j s e
  · rcases set_get e1 with ⟨rfl, rfl, _⟩ | ⟨c1, e1⟩
    · cases o1
    · rcases set_get e2 with ⟨rfl, rfl, _⟩ | ⟨c2, e2⟩
      · cases o2
      · rw [List.getElem?_set_ne (Ne.symm c1)] at e3
        rw [List.getElem?_set_ne (Ne.symm c2)] at e4
        exact r.one j k s t a e1 e2 o1 o2 e3 e4
theorem Rel.setP {i : Nat} {d : D} {v : V} : Rel G H es σ G H (es.set i (.p d)) (σ.set i (some v)) :=
  ⟨Ex.rfl', fun a h1 h2 h3 => ⟨rfl, h1, fun ⟨j, s, e, o, e2⟩ => h3 (by
    rcases set_get e with ⟨rfl, rfl, _⟩ | ⟨c, e⟩
    · cases o
    · rw [List.getElem?_set_ne (Ne.symm c)] at e2
      exact ⟨j, s, e, o, e2⟩)⟩⟩
end
/-! ### what evaluates to what -/
def EvM (C : Addr) (te : TE) (es : Es) (d : D) (es' : Es) : Prop := ∀ G H σ (Q : VK), SR C G H es σ → (∀ v G' H', SR C G' H' es' σ → Rel G H es σ G' H' es' σ → Rp C G' d v → Q v H') → te σ H Q
def EvA (C : Addr) (ta : TA) (es : Es) (ds : List D) (es' : Es) : Prop := ∀ G H σ (Q : List V → Hp → Prop), SR C G H es σ → (∀ vs G' H', SR C G' H' es' σ → Rel G H es σ G' H' es' σ → RpL C G' ds vs → Q vs H') → ta σ H Q
def EvT (C : Addr) (tt : TT) (es : Es) (b : Bool) (es' : Es) : Prop := ∀ G H σ (Q : Bool → Hp → Prop), SR C G H es σ → (∀ G' H', SR C G' H' es' σ → Rel G H es σ G' H' es' σ → Q b H') → tt σ H Q
/-- an operation on values -/
def R2E (C : Addr) (r : R2) (x y z : D) : Prop := ∀ G H vx vy (Q : VK), Ex G H → Rp C G x vx → Rp C G y vy → (∀ v G' H', Step G H G' H' → Rp C G' z v → Q v H') → r vx vy H Q
def R1E (C : Addr) (r : V → Hp → VK → Prop) (x z : D) : Prop := ∀ G H vx (Q : VK), Ex G H → Rp C G x vx → (∀ v G' H', Step G H G' H' → Rp C G' z v → Q v H') → r vx H Q
def RCE (C : Addr) (r : List V → Hp → VK → Prop) (xs : List D) (z : D) : Prop := ∀ G H vs (Q : VK), Ex G H → RpL C G xs vs → (∀ v G' H', Step G H G' H' → Rp C G' z v → Q v H') → r vs H Q
section
variable {C : Addr} {K : PySem.W.Frag} {es e1 e2 e3 : Es} {ta tb tc te : TE} {t u : TT} {x y z d : D} {r : R2} {i j : Int}
theorem ev_var {k : Nat} (h : es[k]? = some (.p d)) : EvM C (tVar k) es d es := fun G H σ Q s q => by
  obtain ⟨o, e, v, rfl, rp⟩ := s.ok k _ h
  exact ⟨v, e, q v G H s Rel.refl rp⟩
theorem ev_cI : EvM C (tC (.int i)) es (.int i) es := fun G H σ Q s q => q _ G H s Rel.refl (by simp only [Rp])
theorem ev_cB {b : Bool} : EvM C (tC (.bl b)) es (.bl b) es := fun G H σ Q s q => q _ G H s Rel.refl (by simp only [Rp])
theorem ev_cN : EvM C (tC .non) es .non es := fun G H σ Q s q => q _ G H s Rel.refl (by simp only [Rp])
theorem ev_cS {s : Str} : EvM C (tC (.str s)) es (.str s) es := fun G H σ Q s q => q _ G H s Rel.refl (by simp only [Rp])
theorem ev_op (ha : EvM C ta es x e1) (hb : EvM C tb e1 y e2) (hr : R2E C r x y z) : EvM C (tOp r ta tb) es z e2 := fun G H σ Q s q =>
  ha G H σ _ s fun vx G1 H1 s1 l1 rx => hb G1 H1 σ _ s1 fun vy G2 H2 s2 l2 ry => hr G2 H2 vx vy Q s2.gh (rx.mono l2.gx) ry fun v G3 H3 st rz =>
    q v G3 H3 (s2.step st) ((l1.trans l2).trans st.rel) rz
theorem ev_un {r : V → Hp → VK → Prop} (ha : EvM C ta es x e1) (hr : R1E C r x z) : EvM C (tUn r ta) es z e1 := fun G H σ Q s q =>
  ha G H σ _ s fun vx G1 H1 s1 l1 rx => hr G1 H1 vx Q s1.gh rx fun v G3 H3 st rz => q v G3 H3 (s1.step st) (l1.trans st.rel) rz
theorem ea_nil : EvA C tNil es [] es := fun G H σ Q s q => q [] G H s Rel.refl .nil
theorem ea_cons {tr : TA} {ds : List D} (ha : EvM C ta es x e1) (hr : EvA C tr e1 ds e2) : EvA C (tCons ta tr) es (x :: ds) e2 := fun G H σ Q s q =>
  ha G H σ _ s fun vx G1 H1 s1 l1 rx => hr G1 H1 σ _ s1 fun vs G2 H2 s2 l2 rs => q (vx :: vs) G2 H2 s2 (l1.trans l2) (.cons (rx.mono l2.gx) rs)
theorem ev_tup {ta : TA} {ds : List D} (h : EvA C ta es ds e1) (hl : ds.length ≤ sizeLine) : EvM C (tTup ta) es (.tup ds) e1 := fun G H σ Q s q =>
  h G H σ _ s fun vs G1 H1 s1 l1 rs => ⟨by rw [rs.length]; exact hl, fun p hp => by
    have st := Step.new s1.gh hp (.tup vs)
    exact q _ _ _ (s1.step st) (l1.trans st.rel) (.tupI upd_same (rs.mono st.gx))⟩
theorem ev_lst {ta : TA} {ds : List D} (h : EvA C ta es ds e1) (hl : ds.length ≤ sizeLine) : EvM C (tLst ta) es (.lst ds) e1 := fun G H σ Q s q =>
  h G H σ _ s fun vs G1 H1 s1 l1 rs => ⟨by rw [rs.length]; exact hl, fun p hp => by
    have st := Step.new s1.gh hp (.lst vs)
    exact q _ _ _ (s1.step st) (l1.trans st.rel) (.lstI upd_same (rs.mono st.gx))⟩
theorem ev_cb {r : List V → Hp → VK → Prop} {ta : TA} {ds : List D} (h : EvA C ta es ds e1) (hr : RCE C r ds z) : EvM C (tCB r ta) es z e1 := fun G H σ Q s q =>
  h G H σ _ s fun vs G1 H1 s1 l1 rs => hr G1 H1 vs Q s1.gh rs fun v G2 H2 st rz => q v G2 H2 (s1.step st) (l1.trans st.rel) rz
theorem ev_is (h : EvM C te es d e1) (e : d = z) : EvM C te es z e1 := by rw [← e]; exact h
theorem et_is {b b' : Bool} (h : EvT C t es b e1) (e : b = b') : EvT C t es b' e1 := by rw [← e]; exact h
/-! ints -/
theorem r2_int {f : Int → Int → Int} : R2E C (rI0 fun i j => .int (f i j)) (.int i) (.int j) (.int (f i j)) := fun G H vx vy Q e h1 h2 q => by
  simp only [Rp] at h1 h2
  exact ⟨i, j, h1, h2, q _ G H (Step.refl e) (by simp only [Rp])⟩
theorem r2_cmp {f : Int → Int → Bool} : R2E C (rI0 fun i j => .bl (f i j)) (.int i) (.int j) (.bl (f i j)) := fun G H vx vy Q e h1 h2 q => by
  simp only [Rp] at h1 h2
  exact ⟨i, j, h1, h2, q _ G H (Step.refl e) (by simp only [Rp])⟩
theorem r2_intC {P : Int → Int → Prop} {f : Int → Int → Int} (c : P i j) : R2E C (rI P fun i j => .int (f i j)) (.int i) (.int j) (.int (f i j)) := fun G H vx vy Q e h1 h2 q => by
  simp only [Rp] at h1 h2
  exact ⟨i, j, h1, h2, c, q _ G H (Step.refl e) (by simp only [Rp])⟩
theorem ev_add (ha : EvM C ta es (.int i) e1) (hb : EvM C tb e1 (.int j) e2) : EvM C (tOp (rI0 fun i j => .int (i + j)) ta tb) es (.int (i + j)) e2 := ev_op ha hb r2_int
theorem ev_sub (ha : EvM C ta es (.int i) e1) (hb : EvM C tb e1 (.int j) e2) : EvM C (tOp (rI0 fun i j => .int (i - j)) ta tb) es (.int (i - j)) e2 := ev_op ha hb r2_int
theorem ev_mulS (ha : EvM C ta es (.int i) e1) (hb : EvM C tb e1 (.int j) e2) (c : CMul i j) : EvM C (tOp (rI CMul fun i j => .int (i * j)) ta tb) es (.int (i * j)) e2 := ev_op ha hb (r2_intC c)
theorem ev_mulW (ha : EvM C ta es (.int i) e1) (hb : EvM C tb e1 (.int j) e2) (c : CMulW i j) : EvM C (tOp (rI CMulW fun i j => .int (i * j)) ta tb) es (.int (i * j)) e2 := ev_op ha hb (r2_intC c)
theorem ev_mod (ha : EvM C ta es (.int i) e1) (hb : EvM C tb e1 (.int j) e2) (c : 0 < j) : EvM C (tOp (rI (fun _ j => 0 < j) fun i j => .int (i % j)) ta tb) es (.int (i % j)) e2 := ev_op ha hb (r2_intC (P := fun _ j => 0 < j) c)
theorem ev_div (ha : EvM C ta es (.int i) e1) (hb : EvM C tb e1 (.int j) e2) (c : CDivW i j) : EvM C (tOp (rI CDivW fun i j => .int (i / j)) ta tb) es (.int (i / j)) e2 := ev_op ha hb (r2_intC c)
theorem ev_pow (ha : EvM C ta es (.int i) e1) (hb : EvM C tb e1 (.int j) e2) (c : CPow i j) : EvM C (tOp (rI CPow fun i j => .int (i ^ j.toNat)) ta tb) es (.int (i ^ j.toNat)) e2 := ev_op ha hb (r2_intC c)
theorem ev_neg (ha : EvM C ta es (.int i) e1) : EvM C (tUn (rU fun i => .int (-i)) ta) es (.int (-i)) e1 := ev_un ha fun G H vx Q e h1 q => by
  simp only [Rp] at h1
  exact ⟨i, h1, q _ G H (Step.refl e) (by simp only [Rp])⟩
theorem ev_lt (ha : EvM C ta es (.int i) e1) (hb : EvM C tb e1 (.int j) e2) : EvM C (tOp (rI0 fun i j => .bl (decide (i < j))) ta tb) es (.bl (decide (i < j))) e2 := ev_op ha hb r2_cmp
theorem ev_le (ha : EvM C ta es (.int i) e1) (hb : EvM C tb e1 (.int j) e2) : EvM C (tOp (rI0 fun i j => .bl (decide (i ≤ j))) ta tb) es (.bl (decide (i ≤ j))) e2 := ev_op ha hb r2_cmp
theorem ev_gt (ha : EvM C ta es (.int i) e1) (hb : EvM C tb e1 (.int j) e2) : EvM C (tOp (rI0 fun i j => .bl (decide (j < i))) ta tb) es (.bl (decide (j < i))) e2 := ev_op ha hb r2_cmp
theorem ev_ge (ha : EvM C ta es (.int i) e1) (hb : EvM C tb e1 (.int j) e2) : EvM C (tOp (rI0 fun i j => .bl (decide (j ≤ i))) ta tb) es (.bl (decide (j ≤ i))) e2 := ev_op ha hb r2_cmp
/-- == of numbers, bools, texts -/
def D.sc : D → Option V
  | .int i => some (.int i)
  | .bl b => some (.bl b)
  | .str s => some (.str s)
  | _ => none
theorem Rp.sc {G : Hp} {d : D} {v w : V} (h : Rp C G d v) (e : d.sc = some w) : v = w := by
  cases d <;> simp only [D.sc] at e <;> try cases e
  all_goals (simp only [Rp] at h; exact h)
theorem r2_eq {vx vy : V} (hx : x.sc = some vx) (hy : y.sc = some vy) (hs : scal vx vy = true) : R2E C rEq x y (.bl (decide (vx = vy))) := fun G H ux uy Q e h1 h2 q => by
  rw [h1.sc hx, h2.sc hy]
  exact ⟨hs, q _ G H (Step.refl e) (by simp only [Rp])⟩
theorem r2_ne {vx vy : V} (hx : x.sc = some vx) (hy : y.sc = some vy) (hs : scal vx vy = true) : R2E C rNe x y (.bl (!decide (vx = vy))) := fun G H ux uy Q e h1 h2 q => by
  rw [h1.sc hx, h2.sc hy]
  exact ⟨hs, q _ G H (Step.refl e) (by simp only [Rp])⟩
theorem decI (i j : Int) : decide (V.int i = V.int j) = decide (i = j) := by
  by_cases h : i = j
  · subst h; simp
  · rw [decide_eq_false h, decide_eq_false fun q => h (V.int.inj q)]
theorem decS (i j : Str) : decide (V.str i = V.str j) = decide (i = j) := by
  by_cases h : i = j
  · subst h; simp
  · rw [decide_eq_false h, decide_eq_false fun q => h (V.str.inj q)]
theorem decB (i j : Bool) : decide (V.bl i = V.bl j) = decide (i = j) := by
  by_cases h : i = j
  · subst h; simp
  · rw [decide_eq_false h, decide_eq_false fun q => h (V.bl.inj q)]
theorem ev_eqI (ha : EvM C ta es (.int i) e1) (hb : EvM C tb e1 (.int j) e2) : EvM C (tOp rEq ta tb) es (.bl (decide (i = j))) e2 := by
  rw [← decI]; exact ev_op ha hb (r2_eq rfl rfl rfl)
theorem ev_eqS {i j : Str} (ha : EvM C ta es (.str i) e1) (hb : EvM C tb e1 (.str j) e2) : EvM C (tOp rEq ta tb) es (.bl (decide (i = j))) e2 := by
  rw [← decS]; exact ev_op ha hb (r2_eq rfl rfl rfl)
theorem ev_eqB {i j : Bool} (ha : EvM C ta es (.bl i) e1) (hb : EvM C tb e1 (.bl j) e2) : EvM C (tOp rEq ta tb) es (.bl (decide (i = j))) e2 := by
  rw [← decB]; exact ev_op ha hb (r2_eq rfl rfl rfl)
theorem ev_neI (ha : EvM C ta es (.int i) e1) (hb : EvM C tb e1 (.int j) e2) : EvM C (tOp rNe ta tb) es (.bl (!decide (i = j))) e2 := by
  rw [← decI]; exact ev_op ha hb (r2_ne rfl rfl rfl)
/-- is None -/
theorem ev_isN (ha : EvM C ta es x e1) : EvM C (tIsN ta) es (.bl x.isNon) e1 := fun G H σ Q s q =>
  ha G H σ _ s fun vx G1 H1 s1 l1 rx => by rw [rx.isNon]; exact q _ G1 H1 s1 l1 (by simp only [Rp])
theorem ev_notN (ha : EvM C ta es x e1) : EvM C (tNotN ta) es (.bl (!x.isNon)) e1 := fun G H σ Q s q =>
  ha G H σ _ s fun vx G1 H1 s1 l1 rx => by rw [rx.isNon]; exact q _ G1 H1 s1 l1 (by simp only [Rp])
/-! places -/
theorem atI_len {α β : Type} {xs : List α} {ys : List β} {i : Int} {x : α} (hl : ys.length = xs.length) (h : atI xs i = some x) : ∃ j : Nat, xs[j]? = some x ∧ ∀ y, ys[j]? = some y → atI ys i = some y := by
  unfold atI at h ⊢
  rw [hl]
  cases e : ixN xs.length i with
  | none => rw [e] at h; cases h
  | some j =>
    rw [e] at h
    exact ⟨j, h, fun y hy => hy⟩
def D.items : D → Option (List D)
  | .tup ds => some ds
  | .lst ds => some ds
  | _ => none
theorem ev_ix {ds : List D} (ha : EvM C ta es x e1) (hb : EvM C tb e1 (.int i) e2) (hi : x.items = some ds) (h : atI ds i = some z) : EvM C (tOp (rIx K) ta tb) es z e2 := ev_op ha hb fun G H vx vy Q e h1 h2 q => by
  simp only [Rp] at h2
  subst h2
  cases x <;> simp only [D.items] at hi <;> try cases hi
  · simp only [Rp] at h1
    obtain ⟨a, vs, rfl, h3, h4⟩ := h1
    obtain ⟨j, h5, h6⟩ := atI_len h4.length h
    obtain ⟨v, h7, h8⟩ := h4.get h5
    exact .inr (.inl ⟨a, vs, i, v, rfl, rfl, SqT.of (e _ _ h3), h6 v h7, q v G H (Step.refl e) h8⟩)
  · simp only [Rp] at h1
    obtain ⟨a, vs, rfl, h3, h4⟩ := h1
    obtain ⟨j, h5, h6⟩ := atI_len h4.length h
    obtain ⟨v, h7, h8⟩ := h4.get h5
    exact .inl ⟨a, vs, i, v, rfl, rfl, SqL.of (e _ _ h3), h6 v h7, q v G H (Step.refl e) h8⟩
theorem ev_ixS {s : Str} {c : Nat} (ha : EvM C ta es (.str s) e1) (hb : EvM C tb e1 (.int i) e2) (hl : s.length ≤ sizeLine) (h : atI s.cps.toList i = some c) : EvM C (tOp (rIx K) ta tb) es (.str ⟨#[c]⟩) e2 := ev_op ha hb fun G H vx vy Q e h1 h2 q => by
  simp only [Rp] at h1 h2
  subst h1 h2
  exact .inr (.inr ⟨s, i, c, rfl, rfl, hl, h, q _ G H (Step.refl e) (by simp only [Rp])⟩)
/-- t[:n] of a longer tuple -/
theorem ev_slT {n : Nat} {ds : List D} (ha : EvM C ta es (.tup ds) e1) (hn : n < ds.length) : EvM C (tSl (rSlT K) ta tNoPart (tPart (tC (.int (n : Int))))) es (.tup (ds.take n)) e1 := fun G H σ Q s q =>
  ha G H σ _ s fun vx G1 H1 s1 l1 rx => by
    simp only [Rp] at rx
    obtain ⟨a, vs, rfl, h3, h4⟩ := rx
    have hlen := h4.length
    have e : cutV vs none (some (n : Int)) = vs.take n := by
      unfold cutV
      rw [HT.sIx_none, HT.sIx_nat, List.drop_zero, Nat.sub_zero, Nat.min_eq_left (by omega)]
    refine ⟨_, rfl, a, vs, rfl, SqT.of (s1.gh _ _ h3), fun ⟨_, z⟩ => ?_, ?_⟩
    · rw [HT.sIx_nat] at z; omega
    · rw [e]
      intro p hp
      have st := Step.new s1.gh hp (.tup (vs.take n))
      exact q _ _ _ (s1.step st) (l1.trans st.rel) (.tupI upd_same ((h4.take n).mono st.gx))
/-! tests -/
theorem et_test {b : Bool} (h : EvM C te es (.bl b) e1) : EvT C (tTest te) es b e1 := fun G H σ Q s q =>
  h G H σ _ s fun v G1 H1 s1 l1 r => by simp only [Rp] at r; exact ⟨b, r, q G1 H1 s1 l1⟩
theorem et_B {b : Bool} (h : EvM C te es (.bl b) e1) : EvT C (tB te) es b e1 := fun G H σ Q s q =>
  h G H σ _ s fun v G1 H1 s1 l1 r => by simp only [Rp] at r; exact ⟨b, r, q G1 H1 s1 l1⟩
theorem et_not {b : Bool} (h : EvT C t es b e1) : EvT C (tNot t) es (!b) e1 := fun G H σ Q s q => h G H σ _ s fun G1 H1 s1 l1 => q G1 H1 s1 l1
theorem et_and {a b : Bool} (h1 : EvT C t es a es) (h2 : a = true → EvT C u es b es) : EvT C (tAnd t u) es (a && b) es := fun G H σ Q s q => h1 G H σ _ s fun G1 H1 s1 l1 => by
  cases a with
  | true => exact h2 rfl G1 H1 σ Q s1 fun G2 H2 s2 l2 => q G2 H2 s2 (l1.trans l2)
  | false => exact q G1 H1 s1 l1
theorem et_or {a b : Bool} (h1 : EvT C t es a es) (h2 : a = false → EvT C u es b es) : EvT C (tOr t u) es (a || b) es := fun G H σ Q s q => h1 G H σ _ s fun G1 H1 s1 l1 => by
  cases a with
  | true => exact q G1 H1 s1 l1
  | false => exact h2 rfl G1 H1 σ Q s1 fun G2 H2 s2 l2 => q G2 H2 s2 (l1.trans l2)
theorem ev_andV {a b : Bool} (h1 : EvM C ta es (.bl a) es) (h2 : a = true → EvM C tb es (.bl b) es) : EvM C (tAndV ta tb) es (.bl (a && b)) es := fun G H σ Q s q => h1 G H σ _ s fun v G1 H1 s1 l1 r => by
  simp only [Rp] at r
  refine ⟨a, r, ?_⟩
  cases a with
  | true =>
    show tb σ H1 Q
    exact h2 rfl G1 H1 σ Q s1 fun w G2 H2 s2 l2 rw => q w G2 H2 s2 (l1.trans l2) rw
  | false =>
    show Q (.bl false) H1
    exact q _ G1 H1 s1 l1 (by simp only [Rp]; rfl)
theorem ev_orV {a b : Bool} (h1 : EvM C ta es (.bl a) es) (h2 : a = false → EvM C tb es (.bl b) es) : EvM C (tOrV ta tb) es (.bl (a || b)) es := fun G H σ Q s q => h1 G H σ _ s fun v G1 H1 s1 l1 r => by
  simp only [Rp] at r
  refine ⟨a, r, ?_⟩
  cases a with
  | true =>
    show Q (.bl true) H1
    exact q _ G1 H1 s1 l1 (by simp only [Rp]; rfl)
  | false =>
    show tb σ H1 Q
    exact h2 rfl G1 H1 σ Q s1 fun w G2 H2 s2 l2 rw => q w G2 H2 s2 (l1.trans l2) rw
theorem ev_notV {a : Bool} (h : EvM C ta es (.bl a) e1) : EvM C (tNotV ta) es (.bl (!a)) e1 := fun G H σ Q s q => h G H σ _ s fun v G1 H1 s1 l1 r => by
  simp only [Rp] at r
  exact ⟨a, r, q _ G1 H1 s1 l1 (by simp only [Rp])⟩
theorem ev_if {b : Bool} (h : EvT C t es b e1) (h1 : b = true → EvM C ta e1 d e2) (h2 : b = false → EvM C tb e1 d e2) : EvM C (tIf t ta tb) es d e2 := fun G H σ Q s q => h G H σ _ s fun G1 H1 s1 l1 => by
  cases b with
  | true => exact h1 rfl G1 H1 σ Q s1 fun w G2 H2 s2 l2 rw => q w G2 H2 s2 (l1.trans l2) rw
  | false => exact h2 rfl G1 H1 σ Q s1 fun w G2 H2 s2 l2 rw => q w G2 H2 s2 (l1.trans l2) rw
/-- a < b < c of ints, by the two operators' rules -/
theorem ev_chain {r r' : R2} {b1 b2 : Bool} (ha : EvM C ta es x es) (hb : EvM C tb es y es) (hc : EvM C tc es z es) (h1 : R2E C r x y (.bl b1)) (h2 : R2E C r' y z (.bl b2)) : EvM C (tChain r r' ta tb tc) es (.bl (b1 && b2)) es := fun G H σ Q s q =>
  ha G H σ _ s fun vx G1 H1 s1 l1 rx => hb G1 H1 σ _ s1 fun vy G2 H2 s2 l2 ry => h1 G2 H2 vx vy _ s2.gh (rx.mono l2.gx) ry fun v G3 H3 st rz => by
    simp only [Rp] at rz
    refine ⟨b1, rz, ?_⟩
    cases b1 with
    | true =>
      show tc σ H3 _
      refine hc G3 H3 σ _ (s2.step st) fun vz G4 H4 s4 l4 rz' => h2 G4 H4 vy vz Q s4.gh ((ry.mono st.gx).mono l4.gx) rz' fun w G5 H5 st5 rw => ?_
      exact q w G5 H5 (s4.step st5) ((((l1.trans l2).trans st.rel).trans l4).trans st5.rel) rw
    | false =>
      show Q (.bl false) H3
      exact q _ G3 H3 (s2.step st) ((l1.trans l2).trans st.rel) (by simp only [Rp]; rfl)
theorem ev_bl_as {a b : Bool} (h : EvM C te es (.bl a) e1) (e : a = b) : EvM C te es (.bl b) e1 := by rw [← e]; exact h
/-! built-in calls -/
def min2 (i j : Int) : Int := if j < i then j else i
theorem ev_min2 (ha : EvM C ta es (.int i) e1) (hb : EvM C tb e1 (.int j) e2) :
    EvM C (tCB (fun xs H Q => ∃ i j, xs = [V.int i, .int j] ∧ Q (.int (if j < i then j else i)) H) (tCons ta (tCons tb tNil))) es (.int (min2 i j)) e2 := ev_cb (ea_cons ha (ea_cons hb ea_nil)) fun G H vs Q e h q => by
  simp only [RpL, Rp] at h
  obtain ⟨v, r, rfl, rfl, v2, r2, rfl, rfl, rfl⟩ := h
  exact ⟨i, j, rfl, q _ G H (Step.refl e) (by simp only [Rp]; rfl)⟩
theorem ev_int1 (ha : EvM C ta es (.int i) e1) :
    EvM C (tCB (fun xs H Q => (∃ i, xs = [V.int i] ∧ Q (.int i) H) ∨ ∃ k, xs = [V.bl k] ∧ Q (.int (if k then 1 else 0)) H) (tCons ta tNil)) es (.int i) e1 := ev_cb (ea_cons ha ea_nil) fun G H vs Q e h q => by
  simp only [RpL, Rp] at h
  obtain ⟨v, r, rfl, rfl, rfl⟩ := h
  exact .inl ⟨i, rfl, q _ G H (Step.refl e) (by simp only [Rp])⟩
theorem ev_intB {b : Bool} (ha : EvM C ta es (.bl b) e1) :
    EvM C (tCB (fun xs H Q => (∃ i, xs = [V.int i] ∧ Q (.int i) H) ∨ ∃ k, xs = [V.bl k] ∧ Q (.int (if k then 1 else 0)) H) (tCons ta tNil)) es (.int (if b then 1 else 0)) e1 := ev_cb (ea_cons ha ea_nil) fun G H vs Q e h q => by
  simp only [RpL, Rp] at h
  obtain ⟨v, r, rfl, rfl, rfl⟩ := h
  exact .inr ⟨b, rfl, q _ G H (Step.refl e) (by simp only [Rp])⟩
theorem ev_sum {ns : List Int} (ha : EvM C ta es (.lst (ns.map D.int)) e1) : EvM C (tCB (rSum K) (tCons ta tNil)) es (.int ns.sum) e1 := ev_cb (ea_cons ha ea_nil) fun G H vs Q e h q => by
  simp only [RpL, Rp] at h
  obtain ⟨v, r, rfl, ⟨a, us, rfl, h3, h4⟩, rfl⟩ := h
  rw [RpL.ints.mp h4] at h3
  exact ⟨a, ns, rfl, SqL.of (e _ _ h3), q _ G H (Step.refl e) (by simp only [Rp])⟩
theorem ev_all {bs : List Bool} (ha : EvM C ta es (.lst (bs.map D.bl)) e1) : EvM C (tCB (rAll K) (tCons ta tNil)) es (.bl (bs.all id)) e1 := ev_cb (ea_cons ha ea_nil) fun G H vs Q e h q => by
  simp only [RpL, Rp] at h
  obtain ⟨v, r, rfl, ⟨a, us, rfl, h3, h4⟩, rfl⟩ := h
  rw [RpL.bls.mp h4] at h3
  exact ⟨a, bs, rfl, SqL.of (e _ _ h3), q _ G H (Step.refl e) (by simp only [Rp])⟩
theorem ev_len {ds : List D} (ha : EvM C ta es x e1) (hi : x.items = some ds) : EvM C (tCB (fun xs H Q => ∃ p ys, xs = [V.ref p] ∧ (SqL K H p ys ∨ SqT K H p ys) ∧ Q (.int ys.length) H) (tCons ta tNil)) es (.int ds.length) e1 := ev_cb (ea_cons ha ea_nil) fun G H vs Q e h q => by
  simp only [RpL] at h
  obtain ⟨v, r, rfl, h1, rfl⟩ := h
  cases x <;> simp only [D.items] at hi <;> try cases hi
  all_goals
    simp only [Rp] at h1
    obtain ⟨a, us, rfl, h3, h4⟩ := h1
  · exact ⟨a, us, rfl, .inr (SqT.of (e _ _ h3)), q _ G H (Step.refl e) (by simp only [Rp]; rw [h4.length])⟩
  · exact ⟨a, us, rfl, .inl (SqL.of (e _ _ h3)), q _ G H (Step.refl e) (by simp only [Rp]; rw [h4.length])⟩
end
end Sw
end
section
/-! Statements, own lists and dicts, loops, calls. -/
namespace Sw
open PySem L2
inductive Oc where
  | nx (es : Es)
  | rt (d : D) (es : Es)
  | bk (es : Es)
  | ct (es : Es)
def Out (C : Addr) (W : Ends) (G H : Hp) (es : Es) (σ : St) : Oc → Prop
  | .nx e' => ∀ G' H' σ', SR C G' H' e' σ' → Rel G H es σ G' H' e' σ' → W.nx σ' H'
  | .rt d e' => ∀ v G' H' σ', SR C G' H' e' σ' → Rel G H es σ G' H' e' σ' → Rp C G' d v → W.rt v H'
  | .bk e' => ∀ G' H' σ', SR C G' H' e' σ' → Rel G H es σ G' H' e' σ' → W.bk σ' H'
  | .ct e' => ∀ G' H' σ', SR C G' H' e' σ' → Rel G H es σ G' H' e' σ' → W.ct σ' H'
def Run (C : Addr) (t : TS) (es : Es) (o : Oc) : Prop := ∀ (W : Ends) G H σ, SR C G H es σ → Out C W G H es σ o → t W σ H
theorem Out.after {C : Addr} {W : Ends} {G H G1 H1 : Hp} {es e1 : Es} {σ σ1 : St} {o : Oc} (l : Rel G H es σ G1 H1 e1 σ1) (h : Out C W G H es σ o) : Out C W G1 H1 e1 σ1 o := by
  cases o with
  | nx e' => exact fun G' H' σ' s r => h G' H' σ' s (l.trans r)
  | rt d e' => exact fun v G' H' σ' s r => h v G' H' σ' s (l.trans r)
  | bk e' => exact fun G' H' σ' s r => h G' H' σ' s (l.trans r)
  | ct e' => exact fun G' H' σ' s r => h G' H' σ' s (l.trans r)
/-- targets -/
def EvG (C : Addr) (g : TG) (d : D) (es es' : Es) : Prop := ∀ G H σ v (Q : St → Hp → Prop), SR C G H es σ → Rp C G d v → (∀ σ', SR C G H es' σ' → Rel G H es σ G H es' σ' → Q σ' H) → g v σ H Q
def EvGs (C : Addr) (g : TGs) (ds : List D) (es es' : Es) : Prop := ∀ G H σ vs (Q : St → Hp → Prop), SR C G H es σ → RpL C G ds vs → (∀ σ', SR C G H es' σ' → Rel G H es σ G H es' σ' → Q σ' H) → g vs σ H Q
section
variable {C : Addr} {K : PySem.W.Frag} {es e1 e2 e3 : Es} {ta tb tc te td ty tv : TE} {t u : TS} {c : TT} {x y z d : D} {o : Oc} {g : TG} {i j : Nat} {b : Bool}
theorem run_seq (h : Run C t es (.nx e1)) (k : Run C u e1 o) : Run C (tSeq t u) es o := fun W G H σ s q =>
  h { W with nx := u W } G H σ s fun G' H' σ' s' r => k W G' H' σ' s' (q.after r)
theorem run_seqR {e' : Es} (h : Run C t es (.rt d e')) : Run C (tSeq t u) es (.rt d e') := fun W G H σ s q => h { W with nx := u W } G H σ s q
theorem run_seqB {e' : Es} (h : Run C t es (.bk e')) : Run C (tSeq t u) es (.bk e') := fun W G H σ s q => h { W with nx := u W } G H σ s q
theorem run_seqC {e' : Es} (h : Run C t es (.ct e')) : Run C (tSeq t u) es (.ct e') := fun W G H σ s q => h { W with nx := u W } G H σ s q
theorem run_next : Run C tNext es (.nx es) := fun W G H σ s q => q G H σ s Rel.refl
theorem run_break : Run C tBreak es (.bk es) := fun W G H σ s q => q G H σ s Rel.refl
theorem run_cont : Run C tCont es (.ct es) := fun W G H σ s q => q G H σ s Rel.refl
theorem run_asg (h : EvM C te es d e1) (k : EvG C g d e1 e2) : Run C (tAsg te g) es (.nx e2) := fun W G H σ s q =>
  h G H σ _ s fun v G1 H1 s1 l1 r => k G1 H1 σ v _ s1 r fun σ2 s2 l2 => q G1 H1 σ2 s2 (l1.trans l2)
theorem eg_name : EvG C (gName i) d es (es.set i (.p d)) := fun G H σ v Q s r q => q _ (s.setP r) Rel.setP
theorem egs_nil : EvGs C gNil [] es es := fun G H σ vs Q s r q => by
  simp only [RpL] at r
  exact ⟨r, q σ s Rel.refl⟩
theorem egs_cons {gs : TGs} {ds : List D} (h : EvG C g d es e1) (k : EvGs C gs ds e1 e2) : EvGs C (gCons g gs) (d :: ds) es e2 := fun G H σ vs Q s r q => by
  simp only [RpL] at r
  obtain ⟨v, w, rfl, r1, r2⟩ := r
  exact ⟨v, w, rfl, h G H σ v _ s r1 fun σ1 s1 l1 => k G H σ1 w _ s1 r2 fun σ2 s2 l2 => q σ2 s2 (l1.trans l2)⟩
theorem eg_tup {n : Nat} {gs : TGs} {ds : List D} (hn : ds.length = n) (h : EvGs C gs ds es e1) : EvG C (gTup K n gs) (.tup ds) es e1 := fun G H σ v Q s r q => by
  simp only [Rp] at r
  obtain ⟨a, vs, rfl, h1, h2⟩ := r
  exact ⟨a, vs, rfl, SqT.of (s.gh _ _ h1), by rw [h2.length, hn], h G H σ vs Q s h2 q⟩
theorem eg_unl {n : Nat} {gs : TGs} {ds : List D} (hn : ds.length = n) (h : EvGs C gs ds es e1) : EvG C (gUnl K n gs) (.lst ds) es e1 := fun G H σ v Q s r q => by
  simp only [Rp] at r
  obtain ⟨a, vs, rfl, h1, h2⟩ := r
  exact ⟨a, vs, rfl, SqL.of (s.gh _ _ h1), by rw [h2.length, hn], h G H σ vs Q s h2 q⟩
theorem run_par {ta : TA} (h : EvA C ta es [x, y] e1) : Run C (tPar i j ta) es (.nx ((e1.set i (.p x)).set j (.p y))) := fun W G H σ s q =>
  h G H σ _ s fun vs G1 H1 s1 l1 r => by
    simp only [RpL] at r
    obtain ⟨v, _, rfl, r1, w, _, rfl, r2, rfl⟩ := r
    exact ⟨v, w, rfl, q G1 H1 _ ((s1.setP r1).setP r2) ((l1.trans Rel.setP).trans Rel.setP)⟩
theorem run_ret (h : EvM C te es d e1) : Run C (tRet te) es (.rt d e1) := fun W G H σ s q => h G H σ _ s fun v G1 H1 s1 l1 r => q v G1 H1 σ s1 l1 r
theorem run_retN : Run C tRetN es (.rt .non es) := fun W G H σ s q => q .non G H σ s Rel.refl (by simp only [Rp])
theorem run_drop (h : EvM C te es d e1) : Run C (tDrop te) es (.nx e1) := fun W G H σ s q => h G H σ _ s fun v G1 H1 s1 l1 r => q G1 H1 σ s1 l1
theorem run_if (h : EvT C c es b e1) (h1 : b = true → Run C t e1 o) (h2 : b = false → Run C u e1 o) : Run C (tIfS c t u) es o := fun W G H σ s q =>
  h G H σ _ s fun G1 H1 s1 l1 => by
    cases b with
    | true => exact h1 rfl W G1 H1 σ s1 (q.after l1)
    | false => exact h2 rfl W G1 H1 σ s1 (q.after l1)
theorem run_ifT (h : EvT C c es b e1) (e : b = true) (k : Run C t e1 o) : Run C (tIfS c t u) es o := run_if h (fun _ => k) fun z => by rw [e] at z; cases z
theorem run_ifF (h : EvT C c es b e1) (e : b = false) (k : Run C u e1 o) : Run C (tIfS c t u) es o := run_if h (fun z => by rw [e] at z; cases z) fun _ => k
theorem run_aug {f : Int → Int → Int} {a n : Int} (h : EvM C te es (.int n) e1) (h0 : es[i]? = some (.p (.int a))) : Run C (tAug i te (ipI f)) es (.nx (e1.set i (.p (.int (f a n))))) := fun W G H σ s q => by
  obtain ⟨o1, e, v, rfl, r⟩ := s.ok i _ h0
  simp only [Rp] at r
  subst r
  refine ⟨_, e, h G H σ _ s fun w G1 H1 s1 l1 r1 => ?_⟩
  simp only [Rp] at r1
  exact ⟨a, n, rfl, r1, q G1 H1 _ (s1.setP (by simp only [Rp])) (l1.trans Rel.setP)⟩
theorem run_eq {o' : Oc} (h : Run C t es o) (e : o = o') : Run C t es o' := e ▸ h
theorem run_es {es' : Es} (h : Run C t es o) (e : es = es') : Run C t es' o := e ▸ h
/-! ### own lists and dicts -/
/-- a slot takes a new thing of the def's own -/
theorem SR.own {G H : Hp} {σ : St} {p : Addr} {u : HO} {sl : Sl} (s : SR C G H es σ) (hp : H p = none) (h : SlOk C G (upd H p u) sl (some (.ref p))) : SR C G (upd H p u) (es.set i sl) (σ.set i (some (.ref p))) ∧ Rel G H es σ G (upd H p u) (es.set i sl) (σ.set i (some (.ref p))) := by
  have other : ∀ {sl' : Sl} {o : Option V}, SlOk C G H sl' o → SlOk C G (upd H p u) sl' o := fun {sl' o} k => by
    have kp : ∀ {a : Addr} {w : HO}, H a = some w → upd H p u a = some w := fun {a w} e => by rw [upd_ne (ne_of_none e hp)]; exact e
    cases sl' with
    | no => trivial
    | p d => exact k
    | oL ds => obtain ⟨a, vs, e, h1, h2, r⟩ := k; exact ⟨a, vs, e, h1, kp h2, r⟩
    | cel a ds => obtain ⟨e, h1, vs, h2, r⟩ := k; exact ⟨e, h1, vs, kp h2, r⟩
    | oI ks => obtain ⟨a, e, h1, h2⟩ := k; exact ⟨a, e, h1, kp h2⟩
    | oT kvs => obtain ⟨a, e, h1, h2⟩ := k; exact ⟨a, e, h1, kp h2⟩
    | celT a kvs => obtain ⟨e, h1, h2⟩ := k; exact ⟨e, h1, kp h2⟩
    | oD kds => obtain ⟨a, vs, e, h1, h2, hk, r⟩ := k; exact ⟨a, vs, e, h1, kp h2, hk, r⟩
  have fresh : ∀ (k : Nat) (sl' : Sl), es[k]? = some sl' → sl'.own = true → σ[k]? ≠ some (some (.ref p)) := fun k sl' e w q => by
    obtain ⟨o, e2, ho⟩ := s.ok k sl' e
    obtain ⟨a, w', e3, _, e4⟩ := ho.adr w
    rw [e3, q] at e2
    cases e2
    rw [hp] at e4; cases e4
  refine ⟨⟨s.gh.trans (Ex.new hp), by rw [List.length_set, List.length_set, s.len], fun k sl' e => ?_, fun k l sa sb a q1 q2 o1 o2 q3 q4 => ?_⟩, ⟨Ex.rfl', fun a h1 h2 h3 => ?_⟩⟩
  · rcases set_get e with ⟨rfl, rfl, hl⟩ | ⟨c, e⟩
    · exact ⟨_, List.getElem?_set_self (by rw [s.len]; exact hl), h⟩
    · rw [List.getElem?_set_ne (Ne.symm c)]
      obtain ⟨o, e2, ho⟩ := s.ok k sl' e
      exact ⟨o, e2, other ho⟩
  · rcases set_get q1 with ⟨e1, e2, hl1⟩ | ⟨c1, r1⟩
    · rcases set_get q2 with ⟨e3, e4, hl2⟩ | ⟨c2, r2⟩
      · rw [e1, e3]
      · rw [e1, List.getElem?_set_self (by rw [s.len]; exact hl1)] at q3
        cases q3
        rw [List.getElem?_set_ne (Ne.symm c2)] at q4
        exact absurd q4 (fresh l sb r2 o2)
    · rw [List.getElem?_set_ne (Ne.symm c1)] at q3
      rcases set_get q2 with ⟨e3, e4, hl2⟩ | ⟨c2, r2⟩
      · rw [e3, List.getElem?_set_self (by rw [s.len]; exact hl2)] at q4
        cases q4
        exact absurd q3 (fresh k sa r1 o1)
      · rw [List.getElem?_set_ne (Ne.symm c2)] at q4
        exact s.one k l sa sb a r1 r2 o1 o2 q3 q4
  · have hap : a ≠ p := fun e => h2 (by rw [e]; exact hp)
    refine ⟨upd_ne hap, h1, fun ⟨k, sl', e, w, e2⟩ => h3 ?_⟩
    rcases set_get e with ⟨rfl, rfl, hl⟩ | ⟨c, e⟩
    · rw [List.getElem?_set_self (by rw [s.len]; exact hl)] at e2
      cases e2
      exact absurd rfl hap
    · rw [List.getElem?_set_ne (Ne.symm c)] at e2
      exact ⟨k, sl', e, w, e2⟩
theorem run_newL : Run C (tAsg (tLst tNil) (gName i)) es (.nx (es.set i (.oL []))) := fun W G H σ s q =>
  ⟨Nat.zero_le _, fun p hp => by
    obtain ⟨s2, l2⟩ := s.own (i := i) (sl := .oL []) hp (u := .lst []) ⟨p, [], rfl, s.gh.nn hp, upd_same, .nil⟩
    exact q _ _ _ s2 l2⟩
theorem run_newI : Run C (tAsg tDNewK (gName i)) es (.nx (es.set i (.oI []))) := fun W G H σ s q p hp => by
  obtain ⟨s2, l2⟩ := s.own (i := i) (sl := .oI []) hp (u := .dK []) ⟨p, rfl, s.gh.nn hp, upd_same⟩
  exact q _ _ _ s2 l2
theorem run_newT : Run C (tAsg tDNewT (gName i)) es (.nx (es.set i (.oT []))) := fun W G H σ s q p hp => by
  obtain ⟨s2, l2⟩ := s.own (i := i) (sl := .oT []) hp (u := .dT []) ⟨p, rfl, s.gh.nn hp, upd_same⟩
  exact q _ _ _ s2 l2
/-- the thing in an own slot changes -/
theorem SR.chg {G H : Hp} {σ : St} {p : Addr} {u : HO} {sl sl' : Sl} (s : SR C G H es σ) (h0 : es[i]? = some sl) (w : sl.own = true) (w' : sl'.own = true) (hp : σ[i]? = some (some (.ref p))) (hG : G p = none) (h : SlOk C G (upd H p u) sl' (some (.ref p))) :
    SR C G (upd H p u) (es.set i sl') σ ∧ Rel G H es σ G (upd H p u) (es.set i sl') σ := by
  have il : i < es.length := (List.getElem?_eq_some_iff.mp h0).1
  have other : ∀ (k : Nat) (s' : Sl) (o : Option V), k ≠ i → es[k]? = some s' → σ[k]? = some o → SlOk C G H s' o → SlOk C G (upd H p u) s' o := fun k s' o c e1 e2 ho => by
    have kp : ∀ {a : Addr} {x : HO}, s'.own = true → o = some (.ref a) → H a = some x → upd H p u a = some x := fun {a x} wo ea e => by
      have : a ≠ p := fun q => c (s.one k i s' sl a e1 h0 wo w (by rw [e2, ea]) (by rw [hp, q]))
      rw [upd_ne this]; exact e
    cases s' with
    | no => trivial
    | p d => exact ho
    | oL ds => obtain ⟨a, vs, e, h1, h2, r⟩ := ho; exact ⟨a, vs, e, h1, kp rfl e h2, r⟩
    | cel a ds => obtain ⟨e, h1, vs, h2, r⟩ := ho; exact ⟨e, h1, vs, kp rfl e h2, r⟩
    | oI ks => obtain ⟨a, e, h1, h2⟩ := ho; exact ⟨a, e, h1, kp rfl e h2⟩
    | oT kvs => obtain ⟨a, e, h1, h2⟩ := ho; exact ⟨a, e, h1, kp rfl e h2⟩
    | celT a kvs => obtain ⟨e, h1, h2⟩ := ho; exact ⟨e, h1, kp rfl e h2⟩
    | oD kds => obtain ⟨a, vs, e, h1, h2, hk, r⟩ := ho; exact ⟨a, vs, e, h1, kp rfl e h2, hk, r⟩
  have ow : ∀ a, Ow (es.set i sl') σ a → Ow es σ a := fun a ⟨k, s', e, wo, e2⟩ => by
    rcases set_get e with ⟨rfl, rfl, hl⟩ | ⟨c, e⟩
    · exact ⟨k, sl, h0, w, e2⟩
    · exact ⟨k, s', e, wo, e2⟩
  refine ⟨⟨fun a o e => ?_, by rw [List.length_set, s.len], fun k s' e => ?_, fun k l sa sb a q1 q2 o1 o2 q3 q4 => ?_⟩, ⟨Ex.rfl', fun a h1 h2 h3 => ?_⟩⟩
  · rw [upd_ne (ne_of_none e hG)]; exact s.gh a o e
  · rcases set_get e with ⟨rfl, rfl, hl⟩ | ⟨c, e⟩
    · exact ⟨_, hp, h⟩
    · obtain ⟨o, e2, ho⟩ := s.ok k s' e
      exact ⟨o, e2, other k s' o c e e2 ho⟩
  · have back : ∀ (k : Nat) (s' : Sl), (es.set i sl')[k]? = some s' → s'.own = true → ∃ s'', es[k]? = some s'' ∧ s''.own = true := fun k s' e wo => by
      rcases set_get e with ⟨rfl, rfl, hl⟩ | ⟨c, e⟩
      · exact ⟨sl, h0, w⟩
      · exact ⟨s', e, wo⟩
    obtain ⟨sa', a1, a2⟩ := back k sa q1 o1
    obtain ⟨sb', b1, b2⟩ := back l sb q2 o2
    exact s.one k l sa' sb' a a1 b1 a2 b2 q3 q4
  · have : a ≠ p := fun e => h3 ⟨i, sl, h0, w, by rw [hp, e]⟩
    exact ⟨upd_ne this, h1, fun z => h3 (ow a z)⟩
theorem run_append {ds : List D} (h : EvM C te es d es) (h0 : es[i]? = some (.oL ds)) (hl : ds.length < sizeLine) : Run C (tDrop (tBM K "list" rAppend (tVar i) (tCons te tNil))) es (.nx (es.set i (.oL (ds ++ [d])))) := fun W G H σ s q => by
  obtain ⟨o, e, a, vs, rfl, hG, hH, r⟩ := s.ok i _ h0
  refine ⟨_, e, .inl ⟨rfl, _, SqL.of hH⟩, h G H σ _ s fun v G1 H1 s1 l1 rv => ?_⟩
  obtain ⟨o1, e1, a1, vs1, ea, hG1, hH1, r1⟩ := s1.ok i _ h0
  rw [e] at e1
  cases e1
  cases ea
  refine ⟨a, vs1, v, rfl, rfl, hH1, by rw [r1.length]; exact hl, ?_⟩
  obtain ⟨s2, l2⟩ := s1.chg (sl' := .oL (ds ++ [d])) (u := .lst (vs1 ++ [v])) h0 rfl rfl e hG1 ⟨a, _, rfl, hG1, upd_same, r1.append (.one rv)⟩
  exact q _ _ _ s2 (l1.trans l2)
theorem run_extend {ds xs : List D} (h : EvM C te es (.lst xs) es) (h0 : es[i]? = some (.oL ds)) (hl : ds.length + xs.length ≤ sizeLine) : Run C (tDrop (tBM K "list" rExtend (tVar i) (tCons te tNil))) es (.nx (es.set i (.oL (ds ++ xs)))) := fun W G H σ s q => by
  obtain ⟨o, e, a, vs, rfl, hG, hH, r⟩ := s.ok i _ h0
  refine ⟨_, e, .inl ⟨rfl, _, SqL.of hH⟩, h G H σ _ s fun v G1 H1 s1 l1 rv => ?_⟩
  obtain ⟨o1, e1, a1, vs1, ea, hG1, hH1, r1⟩ := s1.ok i _ h0
  rw [e] at e1
  cases e1
  cases ea
  simp only [Rp] at rv
  obtain ⟨b, us, rfl, hb, rb⟩ := rv
  refine ⟨a, b, vs1, us, rfl, rfl, hH1, s1.gh _ _ hb, by rw [r1.length, rb.length]; exact hl, ?_⟩
  obtain ⟨s2, l2⟩ := s1.chg (sl' := .oL (ds ++ xs)) (u := .lst (vs1 ++ us)) h0 rfl rfl e hG1 ⟨a, _, rfl, hG1, upd_same, r1.append rb⟩
  exact q _ _ _ s2 (l1.trans l2)
/-- an own list is left as it is from now on -/
theorem run_frL {ds : List D} (h0 : es[i]? = some (.oL ds)) (k : Run C t (es.set i (.p (.lst ds))) o) : Run C t es o := fun W G H σ s q => by
  obtain ⟨oo, e, a, vs, rfl, hG, hH, r⟩ := s.ok i _ h0
  have gx : Ex G (upd G a (.lst vs)) := Ex.new hG
  have il : i < es.length := (List.getElem?_eq_some_iff.mp h0).1
  have s2 : SR C (upd G a (.lst vs)) H (es.set i (.p (.lst ds))) σ := by
    refine ⟨fun b u e2 => ?_, by rw [List.length_set, s.len], fun l sl e2 => ?_, fun l m sa sb b q1 q2 o1 o2 q3 q4 => ?_⟩
    · by_cases c : b = a
      · subst c; rw [upd_same] at e2; cases e2; exact hH
      · rw [upd_ne c] at e2; exact s.gh b u e2
    · rcases set_get e2 with ⟨rfl, rfl, hl⟩ | ⟨c, e2⟩
      · exact ⟨_, e, _, rfl, .lstI upd_same (r.mono gx)⟩
      · obtain ⟨o2, e3, ho⟩ := s.ok l sl e2
        refine ⟨o2, e3, ?_⟩
        have kp : ∀ {b : Addr}, sl.own = true → o2 = some (.ref b) → G b = none → upd G a (.lst vs) b = none := fun {b} wo eb e4 => by
          have : b ≠ a := fun z => c (s.one l i sl _ b e2 h0 wo rfl (by rw [e3, eb]) (by rw [e, z]))
          rw [upd_ne this]; exact e4
        cases sl with
        | no => trivial
        | p d => obtain ⟨v, e4, r4⟩ := ho; exact ⟨v, e4, r4.mono gx⟩
        | oL ds => obtain ⟨b, us, e4, h1, h2, r4⟩ := ho; exact ⟨b, us, e4, kp rfl e4 h1, h2, r4.mono gx⟩
        | cel b ds => obtain ⟨e4, h1, us, h2, r4⟩ := ho; exact ⟨e4, kp rfl e4 h1, us, h2, r4.mono gx⟩
        | oI ks => obtain ⟨b, e4, h1, h2⟩ := ho; exact ⟨b, e4, kp rfl e4 h1, h2⟩
        | oT kvs => obtain ⟨b, e4, h1, h2⟩ := ho; exact ⟨b, e4, kp rfl e4 h1, h2⟩
        | celT b kvs => obtain ⟨e4, h1, h2⟩ := ho; exact ⟨e4, kp rfl e4 h1, h2⟩
        | oD kds => obtain ⟨b, us, e4, h1, h2, hk, r4⟩ := ho; exact ⟨b, us, e4, kp rfl e4 h1, h2, hk, r4.mono gx⟩
    · rcases set_get q1 with ⟨rfl, rfl, _⟩ | ⟨c1, q1⟩
      · cases o1
      · rcases set_get q2 with ⟨rfl, rfl, _⟩ | ⟨c2, q2⟩
        · cases o2
        · exact s.one l m sa sb b q1 q2 o1 o2 q3 q4
  refine k W _ H σ s2 (q.after ⟨gx, fun b h1 h2 h3 => ?_⟩)
  have : b ≠ a := fun z => h3 ⟨i, _, h0, rfl, by rw [e, z]⟩
  refine ⟨rfl, by rw [upd_ne this]; exact h1, fun ⟨l, sl, e2, wo, e3⟩ => h3 ?_⟩
  rcases set_get e2 with ⟨rfl, rfl, _⟩ | ⟨c, e2⟩
  · cases wo
  · exact ⟨l, sl, e2, wo, e3⟩
/-- the same for a dict of texts by pairs -/
theorem run_frT {kvs : List ((Int × Int) × Str)} (h0 : es[i]? = some (.oT (kvs.map fun q => (q.1, V.str q.2)))) (k : Run C t (es.set i (.p (.dic kvs))) o) : Run C t es o := fun W G H σ s q => by
  obtain ⟨oo, e, a, rfl, hG, hH⟩ := s.ok i _ h0
  have gx : Ex G (upd G a (.dT (kvS kvs))) := Ex.new hG
  have s2 : SR C (upd G a (.dT (kvS kvs))) H (es.set i (.p (.dic kvs))) σ := by
    refine ⟨fun b u e2 => ?_, by rw [List.length_set, s.len], fun l sl e2 => ?_, fun l m sa sb b q1 q2 o1 o2 q3 q4 => ?_⟩
    · by_cases c : b = a
      · subst c; rw [upd_same] at e2; cases e2; exact hH
      · rw [upd_ne c] at e2; exact s.gh b u e2
    · rcases set_get e2 with ⟨rfl, rfl, hl⟩ | ⟨c, e2⟩
      · exact ⟨_, e, _, rfl, by simp only [Rp]; exact ⟨a, rfl, upd_same⟩⟩
      · obtain ⟨o2, e3, ho⟩ := s.ok l sl e2
        refine ⟨o2, e3, ?_⟩
        have kp : ∀ {b : Addr}, sl.own = true → o2 = some (.ref b) → G b = none → upd G a (.dT (kvS kvs)) b = none := fun {b} wo eb e4 => by
          have : b ≠ a := fun z => c (s.one l i sl _ b e2 h0 wo rfl (by rw [e3, eb]) (by rw [e, z]))
          rw [upd_ne this]; exact e4
        cases sl with
        | no => trivial
        | p d => obtain ⟨v, e4, r4⟩ := ho; exact ⟨v, e4, r4.mono gx⟩
        | oL ds => obtain ⟨b, us, e4, h1, h2, r4⟩ := ho; exact ⟨b, us, e4, kp rfl e4 h1, h2, r4.mono gx⟩
        | cel b ds => obtain ⟨e4, h1, us, h2, r4⟩ := ho; exact ⟨e4, kp rfl e4 h1, us, h2, r4.mono gx⟩
        | oI ks => obtain ⟨b, e4, h1, h2⟩ := ho; exact ⟨b, e4, kp rfl e4 h1, h2⟩
        | oT kvs => obtain ⟨b, e4, h1, h2⟩ := ho; exact ⟨b, e4, kp rfl e4 h1, h2⟩
        | celT b kvs => obtain ⟨e4, h1, h2⟩ := ho; exact ⟨e4, kp rfl e4 h1, h2⟩
        | oD kds => obtain ⟨b, us, e4, h1, h2, hk, r4⟩ := ho; exact ⟨b, us, e4, kp rfl e4 h1, h2, hk, r4.mono gx⟩
    · rcases set_get q1 with ⟨rfl, rfl, _⟩ | ⟨c1, q1⟩
      · cases o1
      · rcases set_get q2 with ⟨rfl, rfl, _⟩ | ⟨c2, q2⟩
        · cases o2
        · exact s.one l m sa sb b q1 q2 o1 o2 q3 q4
  refine k W _ H σ s2 (q.after ⟨gx, fun b h1 h2 h3 => ?_⟩)
  have : b ≠ a := fun z => h3 ⟨i, _, h0, rfl, by rw [e, z]⟩
  refine ⟨rfl, by rw [upd_ne this]; exact h1, fun ⟨l, sl, e2, wo, e3⟩ => h3 ?_⟩
  rcases set_get e2 with ⟨rfl, rfl, _⟩ | ⟨c, e2⟩
  · cases wo
  · exact ⟨l, sl, e2, wo, e3⟩
/-! dicts by ints -/
def addK (ks : List Int) (k : Int) : List Int := if k ∈ ks then ks else ks ++ [k]
theorem addK_put (ks : List Int) (k : Int) : putK (ks.map fun k => ((Sum.inl k : Key), V.bl true)) (Sum.inl k) (V.bl true) = (addK ks k).map fun k => (Sum.inl k, V.bl true) := by
  have any : ((ks.map fun k => ((Sum.inl k : Key), V.bl true)).any fun kv => decide (kv.1 = Sum.inl k)) = decide (k ∈ ks) := by
    rw [List.any_map]
    by_cases h : k ∈ ks
    · rw [decide_eq_true h]
      exact List.any_eq_true.mpr ⟨k, h, by simp⟩
    · rw [decide_eq_false h]
      rw [List.any_eq_false]
      intro x hx
      simp only [Function.comp, decide_eq_true_eq]
      intro e
      have : x = k := Sum.inl.inj e
      subst this
      exact h hx
  unfold putK addK
  rw [any]
  by_cases h : k ∈ ks
  · rw [decide_eq_true h, if_pos rfl, if_pos h, List.map_map]
    apply List.map_congr_left
    intro x _
    simp only [Function.comp]
    split
    · rename_i e; rw [e]
    · rfl
  · rw [decide_eq_false h, if_neg (by decide), if_neg h, List.map_append]
    rfl
theorem run_putI {ks : List Int} {k : Int} (hk : EvM C ty es (.int k) es) (h0 : es[i]? = some (.oI ks)) (hl : ks.length < sizeLine) : Run C (sDPut (tVar i) ty (tC (.bl true))) es (.nx (es.set i (.oI (addK ks k)))) := fun W G H σ s q => by
  obtain ⟨o, e, a, rfl, hG, hH⟩ := s.ok i _ h0
  refine ⟨_, e, hk G H σ _ s fun v G1 H1 s1 l1 rv => ?_⟩
  simp only [Rp] at rv
  subst rv
  obtain ⟨o1, e1, a1, ea, hG1, hH1⟩ := s1.ok i _ h0
  rw [e] at e1
  cases e1
  cases ea
  refine ⟨a, _, rfl, DPut.k (k := Sum.inl k) hH1 (by rw [List.length_map]; exact hl), ?_⟩
  rw [addK_put]
  obtain ⟨s2, l2⟩ := s1.chg (sl' := .oI (addK ks k)) (u := .dK ((addK ks k).map fun k => (Sum.inl k, V.bl true))) h0 rfl rfl e hG1 ⟨a, rfl, hG1, upd_same⟩
  exact q _ _ _ s2 (l1.trans l2)
/-! dicts by pairs -/
def key2 (p : Int × Int) : List Key := [Sum.inl p.1, Sum.inl p.2]
theorem key2_inj {a b : Int × Int} (e : key2 a = key2 b) : a = b := by
  unfold key2 at e
  injection e with e1 e2
  injection e2 with e2 _
  exact Prod.ext (Sum.inl.inj e1) (Sum.inl.inj e2)
theorem kvT_any (kvs : List ((Int × Int) × V)) (k : Int × Int) : ((kvT kvs).any fun kv => decide (kv.1 = key2 k)) = kvs.any fun kv => decide (kv.1 = k) := by
  unfold kvT
  rw [List.any_map]
  congr 1
  funext x
  show decide (key2 x.1 = key2 k) = decide (x.1 = k)
  by_cases h : x.1 = k
  · rw [h]; simp
  · rw [decide_eq_false h, decide_eq_false fun e => h (key2_inj e)]
theorem kvT_put (kvs : List ((Int × Int) × V)) (k : Int × Int) (v : V) : putK (kvT kvs) (key2 k) v = kvT (putK kvs k v) := by
  unfold putK
  rw [kvT_any]
  split
  · unfold kvT
    rw [List.map_map, List.map_map]
    apply List.map_congr_left
    intro x _
    show (if key2 x.1 = key2 k then (key2 x.1, v) else (key2 x.1, x.2)) = (key2 (if x.1 = k then (x.1, v) else x).1, (if x.1 = k then (x.1, v) else x).2)
    by_cases h : x.1 = k
    · rw [if_pos (by rw [h]), if_pos h]
    · rw [if_neg fun e => h (key2_inj e), if_neg h]
  · unfold kvT
    rw [List.map_append]
    rfl
theorem kvT_val (kvs : List ((Int × Int) × V)) (k : Int × Int) : valV (kvT kvs) (key2 k) = valV kvs k := by
  induction kvs with
  | nil => rfl
  | cons x r ih =>
    show valV ((key2 x.1, x.2) :: kvT r) (key2 k) = valV (x :: r) k
    by_cases h : x.1 = k
    · rw [valV_pos (p := (key2 x.1, x.2)) (by show key2 x.1 = key2 k; rw [h]), valV_pos h]
    · rw [valV_neg (p := (key2 x.1, x.2)) fun e => h (key2_inj e), valV_neg h, ih]
/-- a pair of ints at an address -/
theorem Rp.pair {G : Hp} {u v : Int} {w : V} (h : Rp C G (.tup [.int u, .int v]) w) : ∃ b, w = .ref b ∧ G b = some (.tup ((key2 (u, v)).map kV)) := by
  simp only [Rp, RpL] at h
  obtain ⟨a, vs, rfl, h1, x, r, rfl, rfl, y, r2, rfl, rfl, rfl⟩ := h
  exact ⟨a, rfl, h1⟩
theorem run_putT {kvs : List ((Int × Int) × V)} {k1 k2 : Int} {w : V} (hv : EvM C tv es x es) (hx : x.sc = some w) (hk : EvM C ty es (.tup [.int k1, .int k2]) es) (h0 : es[i]? = some (.oT kvs)) (hl : kvs.length < sizeLine) : Run C (sDPut (tVar i) ty tv) es (.nx (es.set i (.oT (putK kvs (k1, k2) w)))) := fun W G H σ s q => by
  refine hv G H σ _ s fun vv G0 H0 s0 l0 rvv => ?_
  rw [rvv.sc hx]
  obtain ⟨o, e, a, rfl, hG, hH⟩ := s0.ok i _ h0
  refine ⟨_, e, hk G0 H0 σ _ s0 fun v G1 H1 s1 l1 rv => ?_⟩
  obtain ⟨b, rfl, hb⟩ := rv.pair
  obtain ⟨o1, e1, a1, ea, hG1, hH1⟩ := s1.ok i _ h0
  rw [e] at e1
  cases e1
  cases ea
  refine ⟨a, _, rfl, DPut.t hH1 (s1.gh _ _ hb) (by unfold kvT; rw [List.length_map]; exact hl), ?_⟩
  rw [kvT_put]
  obtain ⟨s2, l2⟩ := s1.chg (sl' := .oT (putK kvs (k1, k2) w)) (u := .dT (kvT (putK kvs (k1, k2) w))) h0 rfl rfl e hG1 ⟨a, rfl, hG1, upd_same⟩
  exact q _ _ _ s2 ((l0.trans l1).trans l2)
theorem ev_notinT {kvs : List ((Int × Int) × V)} {k1 k2 : Int} (hk : EvM C ty es (.tup [.int k1, .int k2]) es) (h0 : es[i]? = some (.oT kvs)) : EvM C (tDNotIn ty (tVar i)) es (.bl (!(valV kvs (k1, k2)).isSome)) es := fun G H σ Q s q =>
  hk G H σ _ s fun v G1 H1 s1 l1 rv => by
    obtain ⟨b, rfl, hb⟩ := rv.pair
    obtain ⟨o, e, a, rfl, hG, hH⟩ := s1.ok i _ h0
    refine ⟨_, e, a, _, rfl, DGet.t hH (s1.gh _ _ hb), ?_⟩
    rw [kvT_val]
    exact q _ G1 H1 s1 l1 (by simp only [Rp])
theorem ev_inT {kvs : List ((Int × Int) × V)} {k1 k2 : Int} (hk : EvM C ty es (.tup [.int k1, .int k2]) es) (h0 : es[i]? = some (.oT kvs)) : EvM C (tDIn ty (tVar i)) es (.bl (valV kvs (k1, k2)).isSome) es := fun G H σ Q s q =>
  hk G H σ _ s fun v G1 H1 s1 l1 rv => by
    obtain ⟨b, rfl, hb⟩ := rv.pair
    obtain ⟨o, e, a, rfl, hG, hH⟩ := s1.ok i _ h0
    refine ⟨_, e, a, _, rfl, DGet.t hH (s1.gh _ _ hb), ?_⟩
    rw [kvT_val]
    exact q _ G1 H1 s1 l1 (by simp only [Rp])
theorem ev_lenI {ks : List Int} (h0 : es[i]? = some (.oI ks)) : EvM C (tCB (fun xs H Q => ∃ a kvs, xs = [V.ref a] ∧ H a = some (.dK kvs) ∧ Q (.int kvs.length) H) (tCons (tVar i) tNil)) es (.int ks.length) es := fun G H σ Q s q => by
  obtain ⟨o, e, a, rfl, hG, hH⟩ := s.ok i _ h0
  exact ⟨_, e, a, _, rfl, hH, q _ G H s Rel.refl (by simp only [Rp]; rw [List.length_map])⟩
/-! ### loops -/
def LoopR (C : Addr) (g : TG) (body : TS) : List D → Es → Oc → Prop
  | [], es, o => o = .nx es
  | x :: xs, es, o => ∃ e1, EvG C g x es e1 ∧ ∃ o1, Run C body e1 o1 ∧ (match o1 with
    | .nx e2 => LoopR C g body xs e2 o
    | .ct e2 => LoopR C g body xs e2 o
    | .bk e2 => o = .nx e2
    | .rt d e2 => o = .rt d e2)
theorem run_for {xs : List D} {body : TS} (h : EvM C te es (.lst xs) e1) (k : LoopR C g body xs e1 o) : Run C (tFor (iList K te) g body) es o := fun W G H σ s q =>
  h G H σ _ s fun v G1 H1 s1 l1 r => by
    simp only [Rp] at r
    obtain ⟨a, vs, rfl, ha, rs⟩ := r
    refine ⟨a, rfl, ⟨vs, SqL.of (s1.gh _ _ ha)⟩, for_list (xs := vs) (fun i σ' H' => ∃ G' es', SR C G' H' es' σ' ∧ Rel G1 H1 e1 σ G' H' es' σ' ∧ LoopR C g body (xs.drop i) es' o) ⟨G1, e1, s1, Rel.refl, k⟩
      (fun i σ' H' _ ⟨G', es', s', l', _⟩ => SqL.of (s'.gh _ _ (l'.gx _ _ ha))) ?_ ?_⟩
    · rintro i x σ' H' hi ⟨G', es', s', l', k'⟩
      obtain ⟨d, hd, rd⟩ := rs.get' hi
      have ed : xs.drop i = d :: xs.drop (i + 1) := by
        obtain ⟨hlt, e⟩ := List.getElem?_eq_some_iff.mp hd
        rw [← e]
        exact List.drop_eq_getElem_cons hlt
      rw [ed] at k'
      obtain ⟨e2, hg, o1, hb, hm⟩ := k'
      refine hg G' H' σ' x _ s' (rd.mono l'.gx) fun σ2 s2 l2 => ?_
      have q1 := q.after ((l1.trans l').trans l2)
      cases o1 with
      | nx e3 => exact hb _ G' H' σ2 s2 fun G3 H3 σ3 s3 l3 => ⟨G3, e3, s3, (l'.trans l2).trans l3, hm⟩
      | ct e3 => exact hb _ G' H' σ2 s2 fun G3 H3 σ3 s3 l3 => ⟨G3, e3, s3, (l'.trans l2).trans l3, hm⟩
      | bk e3 =>
        have hm : o = .nx e3 := hm
        subst hm
        exact hb _ G' H' σ2 s2 fun G3 H3 σ3 s3 l3 => q1 G3 H3 σ3 s3 l3
      | rt dd e3 =>
        have hm : o = .rt dd e3 := hm
        subst hm
        exact hb _ G' H' σ2 s2 fun v3 G3 H3 σ3 s3 l3 r3 => q1 v3 G3 H3 σ3 s3 l3 r3
    · rintro σ' H' ⟨G', es', s', l', k'⟩
      rw [rs.length, List.drop_length] at k'
      have k' : o = .nx es' := k'
      subst k'
      exact q G' H' σ' s' (l1.trans l')
theorem run_range {n : Int} {ta : TA} {body : TS} (h : EvA C ta es [.int n] e1) (h0 : 0 ≤ n) (h1 : n < 2 ^ 62) (k : LoopR C g body ((List.range n.toNat).map fun (i : Nat) => D.int (i : Int)) e1 o) : Run C (tFor (iRng1 ta) g body) es o := fun W G H σ s q =>
  h G H σ _ s fun vs G1 H1 s1 l1 r => by
    simp only [RpL, Rp] at r
    obtain ⟨v, _, rfl, rfl, rfl⟩ := r
    refine ⟨n, rfl, by omega, h1, for_range (lo := 0) (n := n.toNat) (fun i σ' H' => ∃ G' es', SR C G' H' es' σ' ∧ Rel G1 H1 e1 σ G' H' es' σ' ∧ LoopR C g body (((List.range n.toNat).map fun (i : Nat) => D.int (i : Int)).drop i) es' o) ⟨G1, e1, s1, Rel.refl, k⟩ ?_ ?_⟩
    · rintro i σ' H' hi ⟨G', es', s', l', k'⟩
      have ed : ((List.range n.toNat).map fun (i : Nat) => D.int (i : Int)).drop i = D.int (i : Int) :: ((List.range n.toNat).map fun (i : Nat) => D.int (i : Int)).drop (i + 1) := by
        rw [List.drop_eq_getElem_cons (by simpa using hi)]
        simp
      rw [ed] at k'
      obtain ⟨e2, hg, o1, hb, hm⟩ := k'
      refine hg G' H' σ' _ _ s' (by simp only [Rp]; rw [Int.zero_add]) fun σ2 s2 l2 => ?_
      have q1 := q.after ((l1.trans l').trans l2)
      cases o1 with
      | nx e3 => exact hb _ G' H' σ2 s2 fun G3 H3 σ3 s3 l3 => ⟨G3, e3, s3, (l'.trans l2).trans l3, hm⟩
      | ct e3 => exact hb _ G' H' σ2 s2 fun G3 H3 σ3 s3 l3 => ⟨G3, e3, s3, (l'.trans l2).trans l3, hm⟩
      | bk e3 =>
        have hm : o = .nx e3 := hm
        subst hm
        exact hb _ G' H' σ2 s2 fun G3 H3 σ3 s3 l3 => q1 G3 H3 σ3 s3 l3
      | rt dd e3 =>
        have hm : o = .rt dd e3 := hm
        subst hm
        exact hb _ G' H' σ2 s2 fun v3 G3 H3 σ3 s3 l3 r3 => q1 v3 G3 H3 σ3 s3 l3 r3
    · rintro σ' H' ⟨G', es', s', l', k'⟩
      rw [List.drop_eq_nil_of_le (by simp)] at k'
      have k' : o = .nx es' := k'
      subst k'
      exact q G' H' σ' s' (l1.trans l')
theorem run_while (Wd : Nat → Es → Prop) (m0 : Nat) (h0 : Wd m0 es)
    (hs : ∀ m e, Wd m e → ∃ b e1, EvT C c e b e1 ∧ (b = false → o = .nx e1) ∧ (b = true → ∃ o1, Run C t e1 o1 ∧ (match o1 with
      | .nx e2 => ∃ m', m' < m ∧ Wd m' e2
      | .ct e2 => ∃ m', m' < m ∧ Wd m' e2
      | .bk e2 => o = .nx e2
      | .rt d e2 => o = .rt d e2))) : Run C (tWhile c t) es o := fun W G H σ s q => by
  refine ⟨fun m σ' H' => ∃ G' e', SR C G' H' e' σ' ∧ Rel G H es σ G' H' e' σ' ∧ Wd m e', ⟨m0, G, es, s, Rel.refl, h0⟩, ?_⟩
  rintro m σ1 H1 ⟨G1, e1, s1, l1, w1⟩
  obtain ⟨b, e2, hc, hf, ht⟩ := hs m e1 w1
  refine hc G1 H1 σ1 _ s1 fun G2 H2 s2 l2 => ?_
  cases b with
  | false =>
    rw [if_neg (by decide)]
    have := hf rfl
    subst this
    exact q G2 H2 σ1 s2 (l1.trans l2)
  | true =>
    rw [if_pos rfl]
    obtain ⟨o1, hb, hm⟩ := ht rfl
    have q1 := q.after (l1.trans l2)
    refine ⟨fun σ' H' => ∃ m', m' < m ∧ ∃ G' e', SR C G' H' e' σ' ∧ Rel G H es σ G' H' e' σ' ∧ Wd m' e', fun _ _ z => z, ?_⟩
    cases o1 with
    | nx e3 =>
      obtain ⟨m', a, w⟩ := hm
      exact hb _ G2 H2 σ1 s2 fun G3 H3 σ3 s3 l3 => ⟨m', a, G3, e3, s3, (l1.trans l2).trans l3, w⟩
    | ct e3 =>
      obtain ⟨m', a, w⟩ := hm
      exact hb _ G2 H2 σ1 s2 fun G3 H3 σ3 s3 l3 => ⟨m', a, G3, e3, s3, (l1.trans l2).trans l3, w⟩
    | bk e3 =>
      have hm : o = .nx e3 := hm
      subst hm
      exact hb _ G2 H2 σ1 s2 fun G3 H3 σ3 s3 l3 => q1 G3 H3 σ3 s3 l3
    | rt dd e3 =>
      have hm : o = .rt dd e3 := hm
      subst hm
      exact hb _ G2 H2 σ1 s2 fun v3 G3 H3 σ3 s3 l3 r3 => q1 v3 G3 H3 σ3 s3 l3 r3
/-! ### comprehensions -/
/-- no slot of these is told -/
def NoAt (es : Es) (vs : List Nat) : Prop := ∀ i ∈ vs, ∀ s, es[i]? = some s → s = .no
theorem wipe_other : ∀ {vs : List Nat} {σ : St} {i : Nat}, i ∉ vs → (wipe σ vs)[i]? = σ[i]?
  | [], σ, i, _ => rfl
  | v :: vs, σ, i, h => by
    unfold wipe
    rw [List.getElem?_set_ne (fun e => h (by rw [e]; exact List.mem_cons_self ..)), wipe_other fun q => h (List.mem_cons_of_mem _ q)]
theorem SR.wipe {G H : Hp} {σ σ' : St} {vs : List Nat} (s : SR C G H es σ) (hn : NoAt es vs) (hl : σ'.length = σ.length) (hw : ∀ i, i ∉ vs → σ'[i]? = σ[i]?) : SR C G H es σ' ∧ ∀ a, Ow es σ' a ↔ Ow es σ a := by
  have notin : ∀ {i : Nat} {sl : Sl}, es[i]? = some sl → sl.own = true → i ∉ vs := fun {i sl} e w q => by
    have := hn i q sl e
    subst this
    cases w
  refine ⟨⟨s.gh, hl.trans s.len, fun i sl e => ?_, fun i j sa sb a q1 q2 o1 o2 q3 q4 => ?_⟩, fun a => ⟨fun ⟨i, sl, e, w, q⟩ => ⟨i, sl, e, w, by rw [← hw i (notin e w)]; exact q⟩, fun ⟨i, sl, e, w, q⟩ => ⟨i, sl, e, w, by rw [hw i (notin e w)]; exact q⟩⟩⟩
  · by_cases c : i ∈ vs
    · have := hn i c sl e
      subst this
      have hi : i < σ'.length := by rw [hl, s.len]; exact (List.getElem?_eq_some_iff.mp e).1
      exact ⟨_, List.getElem?_eq_getElem hi, trivial⟩
    · rw [hw i c]; exact s.ok i sl e
  · rw [hw i (notin q1 o1)] at q3
    rw [hw j (notin q2 o2)] at q4
    exact s.one i j sa sb a q1 q2 o1 o2 q3 q4
/-- a target that stores in these slots alone -/
def EvGw (C : Addr) (g : TG) (d : D) (es es' : Es) (vs : List Nat) : Prop := ∀ G H σ v (Q : St → Hp → Prop), SR C G H es σ → Rp C G d v →
  (∀ σ', SR C G H es' σ' → Rel G H es σ G H es' σ' → σ'.length = σ.length → (∀ i, i ∉ vs → σ'[i]? = σ[i]?) → Q σ' H) → g v σ H Q
def EvGsw (C : Addr) (g : TGs) (ds : List D) (es es' : Es) (vs : List Nat) : Prop := ∀ G H σ us (Q : St → Hp → Prop), SR C G H es σ → RpL C G ds us →
  (∀ σ', SR C G H es' σ' → Rel G H es σ G H es' σ' → σ'.length = σ.length → (∀ i, i ∉ vs → σ'[i]? = σ[i]?) → Q σ' H) → g us σ H Q
theorem egw_name {vs : List Nat} (h : i ∈ vs) : EvGw C (gName i) d es (es.set i (.p d)) vs := fun G H σ v Q s r q =>
  q _ (s.setP r) Rel.setP (List.length_set ..) fun j hj => List.getElem?_set_ne fun e => hj (by rw [← e]; exact h)
theorem egsw_nil {vs : List Nat} : EvGsw C gNil [] es es vs := fun G H σ us Q s r q => by
  simp only [RpL] at r
  exact ⟨r, q σ s Rel.refl rfl fun _ _ => rfl⟩
theorem egsw_cons {gs : TGs} {ds : List D} {vs : List Nat} (h : EvGw C g d es e1 vs) (k : EvGsw C gs ds e1 e2 vs) : EvGsw C (gCons g gs) (d :: ds) es e2 vs := fun G H σ us Q s r q => by
  simp only [RpL] at r
  obtain ⟨v, w, rfl, r1, r2⟩ := r
  exact ⟨v, w, rfl, h G H σ v _ s r1 fun σ1 s1 l1 a1 b1 => k G H σ1 w _ s1 r2 fun σ2 s2 l2 a2 b2 => q σ2 s2 (l1.trans l2) (a2.trans a1) fun i hi => (b2 i hi).trans (b1 i hi)⟩
theorem egw_tup {n : Nat} {gs : TGs} {ds : List D} {vs : List Nat} (hn : ds.length = n) (h : EvGsw C gs ds es e1 vs) : EvGw C (gTup K n gs) (.tup ds) es e1 vs := fun G H σ v Q s r q => by
  simp only [Rp] at r
  obtain ⟨a, us, rfl, h1, h2⟩ := r
  exact ⟨a, us, rfl, SqT.of (s.gh _ _ h1), by rw [h2.length, hn], h G H σ us Q s h2 q⟩
def LcR (C : Addr) (g : TG) (te : TE) (vs : List Nat) : List D → Es → List D → Es → Prop
  | [], es, ys, e' => ys = [] ∧ e' = es
  | x :: xs, es, ys, e' => ∃ e1 y e2 e3 r, EvGw C g x es e1 vs ∧ EvM C te e1 y e2 ∧ ys = y :: r ∧ NoAt e3 vs ∧ e3.length = e2.length ∧ (∀ i, i ∉ vs → e3[i]? = e2[i]?) ∧ LcR C g te vs xs e3 r e'
theorem wipe_same : ∀ {vs : List Nat} {σ σ' : St}, σ'.length = σ.length → (∀ i, i ∉ vs → σ'[i]? = σ[i]?) → wipe σ' vs = wipe σ vs := by
  intro vs σ σ' hl h
  apply List.ext_getElem?
  intro i
  by_cases c : i ∈ vs
  · have key : ∀ (vs : List Nat) (σ : St), i ∈ vs → (wipe σ vs)[i]? = if i < σ.length then some none else none := by
      intro vs
      induction vs with
      | nil => intro σ h; cases h
      | cons v vs ih =>
        intro σ h
        unfold wipe
        by_cases e : v = i
        · subst e
          by_cases q : v < σ.length
          · rw [if_pos q, List.getElem?_set_self (by rw [wipe_length]; exact q)]
          · rw [if_neg q, List.getElem?_eq_none (by rw [List.length_set, wipe_length]; omega)]
        · rw [List.getElem?_set_ne e]
          rcases List.mem_cons.mp h with h | h
          · exact absurd h.symm e
          · exact ih σ h
    rw [key vs σ' c, key vs σ c, hl]
  · rw [wipe_other c, wipe_other c, h i c]
theorem SR.off {G H : Hp} {σ : St} {p : Addr} {u : HO} (s : SR C G H es σ) (hG : G p = none) (hO : ¬ Ow es σ p) : SR C G (upd H p u) es σ := by
  refine ⟨fun a o e => by rw [upd_ne (ne_of_none e hG)]; exact s.gh a o e, s.len, fun i sl e => ?_, s.one⟩
  obtain ⟨o, e2, ho⟩ := s.ok i sl e
  refine ⟨o, e2, ?_⟩
  have kp : ∀ {a : Addr} {x : HO}, sl.own = true → o = some (.ref a) → H a = some x → upd H p u a = some x := fun {a x} w ea h => by
    have : a ≠ p := fun q => hO ⟨i, sl, e, w, by rw [e2, ea, q]⟩
    rw [upd_ne this]; exact h
  cases sl with
  | no => trivial
  | p d => exact ho
  | oL ds => obtain ⟨a, vs, e, h1, h2, r⟩ := ho; exact ⟨a, vs, e, h1, kp rfl e h2, r⟩
  | cel a ds => obtain ⟨e, h1, vs, h2, r⟩ := ho; exact ⟨e, h1, vs, kp rfl e h2, r⟩
  | oI ks => obtain ⟨a, e, h1, h2⟩ := ho; exact ⟨a, e, h1, kp rfl e h2⟩
  | oT kvs => obtain ⟨a, e, h1, h2⟩ := ho; exact ⟨a, e, h1, kp rfl e h2⟩
  | celT a kvs => obtain ⟨e, h1, h2⟩ := ho; exact ⟨e, h1, kp rfl e h2⟩
  | oD kds => obtain ⟨a, vs, e, h1, h2, hk, r⟩ := ho; exact ⟨a, vs, e, h1, kp rfl e h2, hk, r⟩
theorem wipe_wipe (σ : St) (vs : List Nat) : wipe (wipe σ vs) vs = wipe σ vs := wipe_same (wipe_length σ vs) fun i hi => wipe_other hi
/-- less is told of the slots -/
theorem SR.weak {G H : Hp} {σ : St} (s : SR C G H es σ) (hl : e1.length = es.length) (h : ∀ (i : Nat) (sl : Sl), e1[i]? = some sl → sl = .no ∨ es[i]? = some sl) : SR C G H e1 σ ∧ ∀ a, Ow e1 σ a → Ow es σ a := by
  have own : ∀ {i : Nat} {sl : Sl}, e1[i]? = some sl → sl.own = true → es[i]? = some sl := fun {i sl} e w => by
    rcases h i sl e with r | r
    · subst r; cases w
    · exact r
  refine ⟨⟨s.gh, s.len.trans hl.symm, fun i sl e => ?_, fun i j sa sb a q1 q2 o1 o2 q3 q4 => s.one i j sa sb a (own q1 o1) (own q2 o2) o1 o2 q3 q4⟩, fun a ⟨i, sl, e, w, q⟩ => ⟨i, sl, own e w, w, q⟩⟩
  rcases h i sl e with r | r
  · subst r
    have hi : i < σ.length := by rw [s.len, ← hl]; exact (List.getElem?_eq_some_iff.mp e).1
    exact ⟨_, List.getElem?_eq_getElem hi, trivial⟩
  · exact s.ok i sl r
/-- a thing of no slot's is known from now on -/
theorem SR.frz {G H : Hp} {σ : St} {p : Addr} {u : HO} (s : SR C G H es σ) (hG : G p = none) (hH : H p = some u) (hO : ¬ Ow es σ p) : SR C (upd G p u) H es σ := by
  have gx : Ex G (upd G p u) := Ex.new hG
  refine ⟨fun b w e2 => ?_, s.len, fun i sl e => ?_, s.one⟩
  · by_cases c : b = p
    · subst c; rw [upd_same] at e2; cases e2; exact hH
    · rw [upd_ne c] at e2; exact s.gh b w e2
  · obtain ⟨o, e2, ho⟩ := s.ok i sl e
    refine ⟨o, e2, ?_⟩
    have kp : ∀ {b : Addr}, sl.own = true → o = some (.ref b) → G b = none → upd G p u b = none := fun {b} w eb h => by
      have : b ≠ p := fun q => hO ⟨i, sl, e, w, by rw [e2, eb, q]⟩
      rw [upd_ne this]; exact h
    cases sl with
    | no => trivial
    | p d => obtain ⟨v, e4, r4⟩ := ho; exact ⟨v, e4, r4.mono gx⟩
    | oL ds => obtain ⟨b, us, e4, h1, h2, r4⟩ := ho; exact ⟨b, us, e4, kp rfl e4 h1, h2, r4.mono gx⟩
    | cel b ds => obtain ⟨e4, h1, us, h2, r4⟩ := ho; exact ⟨e4, kp rfl e4 h1, us, h2, r4.mono gx⟩
    | oI ks => obtain ⟨b, e4, h1, h2⟩ := ho; exact ⟨b, e4, kp rfl e4 h1, h2⟩
    | oT kvs => obtain ⟨b, e4, h1, h2⟩ := ho; exact ⟨b, e4, kp rfl e4 h1, h2⟩
    | celT b kvs => obtain ⟨e4, h1, h2⟩ := ho; exact ⟨e4, kp rfl e4 h1, h2⟩
    | oD kds => obtain ⟨b, us, e4, h1, h2, hk, r4⟩ := ho; exact ⟨b, us, e4, kp rfl e4 h1, h2, hk, r4.mono gx⟩
/-- [e for target in a list] -/
theorem ev_lc {xs ys : List D} {vs : List Nat} (h : EvM C te es (.lst xs) e1) (hn : NoAt e1 vs) (k : LcR C g ta vs xs e1 ys e2) (hn2 : NoAt e2 vs) (hy : ys.length < sizeLine) :
    EvM C (tLc (iList K te) g tYes ta vs) es (.lst ys) e2 := fun G H σ Q s q =>
  h G H σ _ s fun v G1 H1 s1 l1 r => by
    simp only [Rp] at r
    obtain ⟨a, us, rfl, ha, rs⟩ := r
    refine ⟨a, rfl, ⟨us, SqL.of (s1.gh _ _ ha)⟩, fun Dl hD => ?_⟩
    obtain ⟨sw, ow⟩ := s1.wipe (σ' := wipe σ vs) hn (wipe_length σ vs) fun i hi => wipe_other hi
    have notOw : ¬ Ow e1 (wipe σ vs) Dl := fun ⟨i, sl, e, w, q2⟩ => by
      obtain ⟨o, e3, ho⟩ := sw.ok i sl e
      obtain ⟨b, u, e4, _, e5⟩ := ho.adr w
      rw [e4, q2] at e3
      cases e3
      rw [hD] at e5; cases e5
    have start : SR C G1 (upd H1 Dl (.lst [])) e1 (wipe σ vs) := sw.off (s1.gh.nn hD) notOw
    refine lc_list (xs := us) (fun i H' => ∃ G' e' yd yr wd, SR C G' H' e' (wipe σ vs) ∧ Ex G1 G' ∧ (∀ a, a ≠ Dl → G1 a = none → H1 a ≠ none → ¬ Ow e1 (wipe σ vs) a → H' a = H1 a ∧ G' a = none ∧ ¬ Ow e' (wipe σ vs) a) ∧
      G' Dl = none ∧ ¬ Ow e' (wipe σ vs) Dl ∧ H' Dl = some (.lst wd) ∧ RpL C G' yd wd ∧ ys = yd ++ yr ∧ NoAt e' vs ∧ LcR C g ta vs (xs.drop i) e' yr e2)
      ⟨G1, e1, [], ys, [], start, Ex.rfl', fun a h0 h1 h2 h3 => ⟨upd_ne h0, h1, h3⟩, s1.gh.nn hD, notOw, upd_same, .nil, rfl, hn, k⟩ ?_ ?_ ?_
    · rintro i H' _ ⟨G', e', yd, yr, wd, s', gx, _⟩
      exact SqL.of (s'.gh _ _ (gx _ _ ha))
    · rintro i x H' hi ⟨G', e', yd, yr, wd, s', gx, kp, hG', hO', hH', rd, ey, hn', k'⟩
      obtain ⟨d, hd, rx⟩ := rs.get' hi
      have ed : xs.drop i = d :: xs.drop (i + 1) := by
        obtain ⟨hlt, e⟩ := List.getElem?_eq_some_iff.mp hd
        rw [← e]
        exact List.drop_eq_getElem_cons hlt
      rw [ed] at k'
      obtain ⟨e3, y, e4, e5, r, hgx, hy1, er, hn5, hlen5, hoff5, k2⟩ := k'
      refine hgx G' H' (wipe σ vs) x _ s' (rx.mono gx) fun σ2 s2 l2 hl2 ho2 => ?_
      refine ⟨(wipe_same hl2 ho2).trans (wipe_wipe σ vs), ?_⟩
      show ta σ2 H' _
      refine hy1 G' H' σ2 _ s2 fun v4 G4 H4 s4 l4 r4 => ?_
      have l24 := l2.trans l4
      obtain ⟨d1, d2, d3⟩ := l24.kp Dl hG' (by rw [hH']; exact Option.some_ne_none _) hO'
      obtain ⟨s5, ow5⟩ := s4.weak (e1 := e5) hlen5 fun j sl e => by
        by_cases c : j ∈ vs
        · exact .inl (hn5 j c sl e)
        · rw [hoff5 j c] at e; exact .inr e
      obtain ⟨s6, ow6⟩ := s5.wipe (σ' := wipe σ vs) hn5 hl2.symm fun j hj => (ho2 j hj).symm
      have back : ∀ a, Ow e5 (wipe σ vs) a → Ow e4 σ2 a := fun a z => ow5 a ((ow6 a).mp z)
      refine ⟨wd, d1.trans hH', ?_, ?_⟩
      · have h1 := rd.length
        have h2 : ys.length = yd.length + yr.length := by rw [ey, List.length_append]
        rw [er, List.length_cons] at h2
        omega
      · refine ⟨G4, e5, yd ++ [y], r, wd ++ [v4], s6.off d2 fun z => d3 (back _ z), gx.trans l24.gx, fun a h0 h1 h2 h3 => ?_, d2, fun z => d3 (back _ z), upd_same, (rd.mono l24.gx).append (.one r4), by rw [ey, er, List.append_assoc]; rfl, hn5, k2⟩
        obtain ⟨p1, p2, p3⟩ := kp a h0 h1 h2 h3
        obtain ⟨p4, p5, p6⟩ := l24.kp a p2 (by rw [p1]; exact h2) p3
        exact ⟨by rw [upd_ne h0, p4, p1], p5, fun z => p6 (back _ z)⟩
    · rintro H' ⟨G', e', yd, yr, wd, s', gx, kp, hG', hO', hH', rd, ey, hn', k'⟩
      rw [rs.length, List.drop_length] at k'
      obtain ⟨e5, e6⟩ : yr = [] ∧ e2 = e' := k'
      subst e6
      rw [e5, List.append_nil] at ey
      subst ey
      obtain ⟨s7, ow7⟩ := s'.wipe (σ' := σ) hn' (wipe_length σ vs).symm fun j hj => (wipe_other hj).symm
      have s8 := s7.frz hG' hH' fun z => hO' ((ow7 _).mp z)
      refine q _ _ _ s8 (l1.trans ⟨gx.trans (Ex.new hG'), fun a h1 h2 h3 => ?_⟩) (.lstI upd_same (rd.mono (Ex.new hG')))
      have h0 : a ≠ Dl := fun e => h2 (by rw [e]; exact hD)
      obtain ⟨p1, p2, p3⟩ := kp a h0 h1 h2 fun z => h3 ((ow a).mp z)
      exact ⟨p1, by rw [upd_ne h0]; exact p2, fun z => p3 ((ow7 a).mp z)⟩
end
end Sw
end
section
/-! Calls, defs, the last rules. -/
namespace Sw
open PySem PySem.Spec PyProof.Rows L2
/-- a def over data: rel tells what it gives -/
def spP (C : Addr) (rel : List D → D → Prop) : Sp := fun vs H Q _ => ∃ G ds d, Ex G H ∧ RpL C G ds vs ∧ rel ds d ∧ ∀ v G' H', Step G H G' H' → Rp C G' d v → Q v H'
/-- a def whose first argument is a list of one number that it changes -/
def spM (C : Addr) (rel : Int → List D → D → Int → Prop) : Sp := fun vs H Q _ => ∃ G p w N ds d N', vs = .ref p :: w ∧ Ex G H ∧ G p = none ∧ H p = some (.lst [.int N]) ∧ RpL C G ds w ∧ rel N ds d N' ∧
  ∀ v G' H', Ex G G' → Ex G' H' → G' p = none → H' p = some (.lst [.int N']) → (∀ a, a ≠ p → G a = none → H a ≠ none → H' a = H a ∧ G' a = none) → Rp C G' d v → Q v H'
/-- slots that hold such a list -/
inductive Wl : Sl → Int → Sl → Int → Prop where
  | o (N N' : Int) : Wl (.oL [.int N]) N (.oL [.int N']) N'
  | c (a : Addr) (N N' : Int) : Wl (.cel a [.int N]) N (.cel a [.int N']) N'
section
variable {C : Addr} {K : PySem.W.Frag} {es e1 e2 e3 : Es} {ta tb te td ty tv : TE} {t u : TS} {c : TT} {x y z d : D} {o : Oc} {g : TG} {i j : Nat} {b : Bool}
theorem ev_call {rel : List D → D → Prop} {ds : List D} {E : XK} {ta : TA} (h : EvA C ta es ds e1) (hr : rel ds d) : EvM C (tCall (spP C rel) [] E ta) es d e1 := fun G H σ Q s q =>
  h G H σ _ s fun vs G1 H1 s1 l1 r => by
    show spP C rel (vs ++ []) H1 Q E
    rw [List.append_nil]
    exact ⟨G1, ds, d, s1.gh, r, hr, fun v G2 H2 st rv => q v G2 H2 (s1.step st) (l1.trans st.rel) rv⟩
theorem Wl.slot {G H : Hp} {s s' : Sl} {N N' : Int} {o : Option V} (w : Wl s N s' N') (h : SlOk C G H s o) : s.own = true ∧ s'.own = true ∧ ∃ a, o = some (.ref a) ∧ G a = none ∧ H a = some (.lst [.int N]) ∧
    ∀ G' H', G' a = none → H' a = some (.lst [.int N']) → SlOk C G' H' s' (some (.ref a)) := by
  cases w with
  | o N N' =>
    obtain ⟨a, vs, e, h1, h2, r⟩ := h
    simp only [RpL, Rp] at r
    obtain ⟨v, _, rfl, rfl, rfl⟩ := r
    exact ⟨rfl, rfl, a, e, h1, h2, fun G' H' k1 k2 => ⟨a, _, rfl, k1, k2, by simp only [RpL, Rp]; exact ⟨_, _, rfl, rfl, rfl⟩⟩⟩
  | c a N N' =>
    obtain ⟨e, h1, vs, h2, r⟩ := h
    simp only [RpL, Rp] at r
    obtain ⟨v, _, rfl, rfl, rfl⟩ := r
    exact ⟨rfl, rfl, a, e, h1, h2, fun G' H' k1 k2 => ⟨rfl, k1, _, k2, by simp only [RpL, Rp]; exact ⟨_, _, rfl, rfl, rfl⟩⟩⟩
theorem upd_self {H : Hp} {p : Addr} {u : HO} (h : H p = some u) : upd H p u = H := by
  funext a
  by_cases c : a = p
  · subst c; rw [upd_same, h]
  · rw [upd_ne c]
theorem ev_callM {rel : Int → List D → D → Int → Prop} {ds : List D} {E : XK} {ta : TA} {N N' : Int} {s s' : Sl} (h0 : es[i]? = some s) (w : Wl s N s' N') (h : EvA C ta es ds es) (hr : rel N ds d N') :
    EvM C (tCall (spM C rel) [] E (tCons (tVar i) ta)) es d (es.set i s') := fun G H σ Q r q => by
  obtain ⟨o0, e0, k0⟩ := r.ok i s h0
  obtain ⟨w1, w2, p, ep, _, _, _⟩ := w.slot k0
  subst ep
  refine ⟨_, e0, h G H σ _ r fun vs G1 H1 s1 l1 rs => ?_⟩
  obtain ⟨o1, e1, k1⟩ := s1.ok i s h0
  obtain ⟨_, _, p1, ep, hG, hH, mk⟩ := w.slot k1
  rw [e0] at e1
  cases e1
  cases ep
  show spM C rel (.ref p :: (vs ++ [])) H1 Q E
  rw [List.append_nil]
  refine ⟨G1, p, vs, N, ds, d, N', rfl, s1.gh, hG, hH, rs, hr, fun v G2 H2 g1 g2 g3 g4 g5 rv => ?_⟩
  -- the heap as if the list stood as before
  have st : Step G1 H1 G2 (upd H2 p (.lst [.int N])) := ⟨g1, fun a u e => by
    rw [upd_ne (ne_of_none e g3)]; exact g2 a u e, fun a a1 a2 => by
    by_cases cc : a = p
    · subst cc; rw [upd_same, hH]; exact ⟨rfl, g3⟩
    · rw [upd_ne cc]; exact g5 a cc a1 a2⟩
  have s2 := s1.step st
  obtain ⟨s3, l3⟩ := s2.chg (i := i) (sl' := s') (u := .lst [.int N']) h0 w1 w2 e0 g3 (mk _ _ g3 upd_same)
  rw [upd_upd, upd_self g4] at s3 l3
  exact q v G2 H2 s3 ((l1.trans st.rel).trans l3) rv
/-- the number in such a list -/
theorem ev_well {N N' : Int} {s s' : Sl} (h0 : es[i]? = some s) (w : Wl s N s' N') : EvM C (tOp (rIx K) (tVar i) (tC (.int 0))) es (.int N) es := fun G H σ Q r q => by
  obtain ⟨o0, e0, k0⟩ := r.ok i s h0
  obtain ⟨w1, w2, p, ep, hG, hH, _⟩ := w.slot k0
  subst ep
  exact ⟨_, e0, .inl ⟨p, _, 0, _, rfl, rfl, SqL.of hH, rfl, q _ G H r Rel.refl (by simp only [Rp])⟩⟩
theorem run_setWell {N N' : Int} {s s' : Sl} (h0 : es[i]? = some s) (w : Wl s N s' N') (h : EvM C te es (.int N') es) : Run C (tAsg te (gSub (tVar i) (tC (.int 0)) rSetL)) es (.nx (es.set i s')) := fun W G H σ r q =>
  h G H σ _ r fun v G1 H1 s1 l1 rv => by
    simp only [Rp] at rv
    subst rv
    obtain ⟨o0, e0, k0⟩ := s1.ok i s h0
    obtain ⟨w1, w2, p, ep, hG, hH, mk⟩ := w.slot k0
    subst ep
    refine ⟨_, e0, p, _, 0, 0, rfl, rfl, hH, rfl, ?_⟩
    obtain ⟨s3, l3⟩ := s1.chg (i := i) (sl' := s') (u := .lst [.int N']) h0 w1 w2 e0 hG (mk _ _ hG upd_same)
    exact q _ _ _ s3 (l1.trans l3)
/-! boards -/
theorem flds_wide (w h : Int) (d : Addr) : (flds w h d).lookup ("wide" : Str) = some (.int w) := by
  unfold flds
  rw [lookup_putF, if_neg (by decide +kernel), lookup_putF, if_neg (by decide +kernel), lookup_putF, if_pos rfl]
theorem flds_high (w h : Int) (d : Addr) : (flds w h d).lookup ("high" : Str) = some (.int h) := by
  unfold flds
  rw [lookup_putF, if_neg (by decide +kernel), lookup_putF, if_pos rfl]
theorem flds_kinds (w h : Int) (d : Addr) : (flds w h d).lookup ("kinds" : Str) = some (.ref d) := by
  unfold flds
  rw [lookup_putF, if_pos rfl]
theorem flds_turned (w h : Int) (d : Addr) : (flds w h d).lookup ("turned" : Str) = none := by
  unfold flds
  rw [lookup_putF, if_neg (by decide +kernel), lookup_putF, if_neg (by decide +kernel), lookup_putF, if_neg (by decide +kernel)]
  rfl
theorem ev_wide {w h : Int} {kvs : List ((Int × Int) × Str)} (cl : Cls K C) (na : NoAttr K C "wide") (ha : EvM C ta es (.brd w h kvs) e1) : EvM C (tFld K ta "wide") es (.int w) e1 := fun G H σ Q s q =>
  ha G H σ _ s fun v G1 H1 s1 l1 r => by
    simp only [Rp] at r
    obtain ⟨a, dx, d, rfl, h1, h2⟩ := r
    exact ⟨a, C, dx, _, _, rfl, s1.gh _ _ h1, cl, na, flds_wide _ _ _, q _ G1 H1 s1 l1 (by simp only [Rp])⟩
theorem ev_high {w h : Int} {kvs : List ((Int × Int) × Str)} (cl : Cls K C) (na : NoAttr K C "high") (ha : EvM C ta es (.brd w h kvs) e1) : EvM C (tFld K ta "high") es (.int h) e1 := fun G H σ Q s q =>
  ha G H σ _ s fun v G1 H1 s1 l1 r => by
    simp only [Rp] at r
    obtain ⟨a, dx, d, rfl, h1, h2⟩ := r
    exact ⟨a, C, dx, _, _, rfl, s1.gh _ _ h1, cl, na, flds_high _ _ _, q _ G1 H1 s1 l1 (by simp only [Rp])⟩
theorem ev_prop {w h : Int} {kvs : List ((Int × Int) × Str)} {rel : List D → D → Prop} {E : XK} (ha : EvM C ta es (.brd w h kvs) e1) (hr : rel [.brd w h kvs] d) : EvM C (tProp C (spP C rel) [] E ta) es d e1 := fun G H σ Q s q =>
  ha G H σ _ s fun v G1 H1 s1 l1 r => by
    have r' := r
    simp only [Rp] at r
    obtain ⟨a, dx, dd, rfl, h1, h2⟩ := r
    exact ⟨a, dx, _, rfl, s1.gh _ _ h1, G1, _, d, s1.gh, .one r', hr, fun v G2 H2 st rv => q v G2 H2 (s1.step st) (l1.trans st.rel) rv⟩
theorem ev_turned {w h : Int} {kvs : List ((Int × Int) × Str)} {rel : List D → D → Prop} {ds : List D} {E : XK} {tr : TA} (ha : EvM C ta es (.brd w h kvs) e1) (hs : EvA C tr e1 ds e2) (hr : rel (.brd w h kvs :: ds) d) :
    EvM C (tMeth C "turned" (spP C rel) [] E ta tr) es d e2 := fun G H σ Q s q =>
  ha G H σ _ s fun v G1 H1 s1 l1 r => by
    have r' := r
    simp only [Rp] at r
    obtain ⟨a, dx, dd, rfl, h1, h2⟩ := r
    refine ⟨a, dx, _, rfl, s1.gh _ _ h1, flds_turned _ _ _, hs G1 H1 σ _ s1 fun vs G2 H2 s2 l2 rs => ?_⟩
    show spP C rel (.ref a :: (vs ++ [])) H2 Q E
    rw [List.append_nil]
    exact ⟨G2, _, d, s2.gh, .cons (r'.mono l2.gx) rs, hr, fun v G3 H3 st rv => q v G3 H3 (s2.step st) ((l1.trans l2).trans st.rel) rv⟩
/-- Board.__init__ -/
def spI (C : Addr) (rel : List D → Int → Int → List ((Int × Int) × Str) → Prop) : Sp := fun vs H Q _ => ∃ G x dx us ds w h kvs, vs = .ref x :: us ∧ Ex G H ∧ G x = none ∧ H x = some (.ins C dx []) ∧ RpL C G ds us ∧ rel ds w h kvs ∧
  ∀ G' H' dd, Ex G G' → Ex G' H' → G' x = none → H' x = some (.ins C dx (flds w h dd)) → G' dd = some (.dT (kvS kvs)) → (∀ a, a ≠ x → G a = none → H a ≠ none → H' a = H a ∧ G' a = none) → Q .non H'
theorem ev_make {rel : List D → Int → Int → List ((Int × Int) × Str) → Prop} {ds : List D} {w h : Int} {kvs : List ((Int × Int) × Str)} {E : XK} {tr : TA} (hs : EvA C tr es ds e1) (hr : rel ds w h kvs) :
    EvM C (tMake C (spI C rel) [] E tr) es (.brd w h kvs) e1 := fun G H σ Q s q =>
  hs G H σ _ s fun vs G1 H1 s1 l1 rs => fun x dx hx hdx hne => by
    show spI C rel (.ref x :: (vs ++ [])) _ _ E
    rw [List.append_nil]
    have hG : G1 x = none := s1.gh.nn hx
    have hGd : G1 dx = none := s1.gh.nn hdx
    have g0 : Ex G1 (upd (upd H1 dx (.own x)) x (.ins C dx [])) := fun a u e => by
      rw [upd_ne (ne_of_none e hG), upd_ne (ne_of_none e hGd)]; exact s1.gh a u e
    refine ⟨G1, x, dx, vs, ds, w, h, kvs, rfl, g0, hG, upd_same, rs, hr, fun G2 H2 dd g1 g2 g3 g4 g5 g6 => ⟨rfl, ?_⟩⟩
    have st : Step G1 H1 (upd G2 x (.ins C dx (flds w h dd))) H2 := ⟨fun a u e => by
      rw [upd_ne (ne_of_none e hG)]; exact g1 a u e, fun a u e => by
      by_cases cc : a = x
      · subst cc; rw [upd_same] at e; cases e; exact g4
      · rw [upd_ne cc] at e; exact g2 a u e, fun a a1 a2 => by
      have cx : a ≠ x := fun e => a2 (by rw [e]; exact hx)
      have cd : a ≠ dx := fun e => a2 (by rw [e]; exact hdx)
      have := g6 a cx a1 (by rw [upd_ne cx, upd_ne cd]; exact a2)
      rw [upd_ne cx, upd_ne cd] at this
      rw [upd_ne cx]; exact this⟩
    refine q _ _ _ (s1.step st) (l1.trans st.rel) ?_
    simp only [Rp]
    refine ⟨x, dx, dd, rfl, upd_same, ?_⟩
    rw [upd_ne (ne_of_none g5 g3)]; exact g5
/-! isinstance -/
def D.cls : D → Option String
  | .non => some "NoneType"
  | .bl _ => some "bool"
  | .int _ => some "int"
  | .str _ => some "str"
  | .tup _ => some "tuple"
  | .lst _ => some "list"
  | _ => none
theorem ev_isi {T ty : String} (ha : EvM C ta es x e1) (hx : x.cls = some ty) (hk : kitB ty T = some b) : EvM C (tCB (rIsi K) (tCons ta (tCons (tC (.ty T)) tNil))) es (.bl b) e1 := fun G H σ Q s q =>
  ha G H σ _ s fun v G1 H1 s1 l1 r => by
    refine ⟨v, _, .type ty, .type T, b, rfl, .ty T, ?_, kit_ty hk, q _ G1 H1 s1 l1 (by simp only [Rp])⟩
    cases x <;> simp only [D.cls] at hx <;> cases hx <;> simp only [Rp] at r
    · subst r; exact .base .non
    · subst r; exact .base (.bl _)
    · subst r; exact .base (.int _)
    · subst r; exact .base (.str _)
    · obtain ⟨a, vs, rfl, h1, _⟩ := r; exact .base (.tup (s1.gh _ _ h1))
    · obtain ⟨a, vs, rfl, h1, _⟩ := r; exact .base (.lst (s1.gh _ _ h1))
/-! data as the library has it -/
mutual
def D.py : D → PyData
  | .non => .none
  | .bl b => .bool b
  | .int i => .int i
  | .str s => .str s
  | .tup ds => .tuple (D.pyL ds)
  | .lst ds => .list (D.pyL ds)
  | _ => .none
def D.pyL : List D → List PyData
  | [] => []
  | d :: ds => D.py d :: D.pyL ds
end
mutual
/-- no dict, no board in it, not deeper than so -/
def D.fl : Nat → D → Bool
  | _, .dic _ => false
  | _, .brd _ _ _ => false
  | _, .str _ => false
  | n + 1, .tup ds => D.flL n ds
  | n + 1, .lst ds => D.flL n ds
  | 0, .tup _ => false
  | 0, .lst _ => false
  | _, _ => true
def D.flL : Nat → List D → Bool
  | _, [] => true
  | n, d :: ds => D.fl n d && D.flL n ds
end
mutual
theorem fl_lay : ∀ (n : Nat) (d : D), D.fl n d = true → (D.py d).canLay0 = true ∧ (D.py d).depth ≤ n
  | n, .non, _ => by simp [D.py, PyData.canLay0, PyData.depth]
  | n, .bl _, _ => by simp [D.py, PyData.canLay0, PyData.depth]
  | n, .int _, _ => by simp [D.py, PyData.canLay0, PyData.depth]
  | n, .str _, h => by simp [D.fl] at h
  | n, .dic _, h => by simp [D.fl] at h
  | n, .brd _ _ _, h => by simp [D.fl] at h
  | 0, .tup _, h => by simp [D.fl] at h
  | 0, .lst _, h => by simp [D.fl] at h
  | n + 1, .tup ds, h => by
    obtain ⟨a, b⟩ := fl_layL n ds (by simpa [D.fl] using h)
    simp only [D.py, PyData.canLay0, PyData.depth]
    exact ⟨a, by omega⟩
  | n + 1, .lst ds, h => by
    obtain ⟨a, b⟩ := fl_layL n ds (by simpa [D.fl] using h)
    simp only [D.py, PyData.canLay0, PyData.depth]
    exact ⟨a, by omega⟩
theorem fl_layL : ∀ (n : Nat) (ds : List D), D.flL n ds = true → PyData.canLayAll0 (D.pyL ds) = true ∧ PyData.depthAll (D.pyL ds) ≤ n
  | n, [], _ => by simp [D.pyL, PyData.canLayAll0, PyData.depthAll]
  | n, d :: ds, h => by
    have h : (D.fl n d && D.flL n ds) = true := by simpa [D.flL] using h
    obtain ⟨h1, h2⟩ := Bool.and_eq_true_iff.mp h
    obtain ⟨a, b⟩ := fl_lay n d h1
    obtain ⟨a', b'⟩ := fl_layL n ds h2
    simp only [D.pyL, PyData.canLayAll0, PyData.depthAll, a, a', Bool.and_self, true_and]
    omega
end
theorem fl_shaped {n : Nat} {d : D} (h : D.fl n d = true) (hn : n ≤ 64) : SeqAt.shaped (D.py d) = true := by
  obtain ⟨a, b⟩ := fl_lay n d h
  show ((D.py d).canLay0 && decide ((D.py d).depth ≤ 64)) = true
  rw [a, Bool.true_and]
  exact decide_eq_true (by omega)
mutual
theorem fl_dp {G H : Hp} (e : Ex G H) : ∀ (n : Nat) (d : D) (v : V), D.fl n d = true → Rp C G d v → Dp K H v (D.py d)
  | n, .non, v, _, r => by simp only [Rp] at r; subst r; simp only [D.py]; exact .non
  | n, .bl _, v, _, r => by simp only [Rp] at r; subst r; simp only [D.py]; exact .bl _
  | n, .int _, v, _, r => by simp only [Rp] at r; subst r; simp only [D.py]; exact .int _
  | n, .str _, v, h, r => by simp [D.fl] at h
  | n, .dic _, v, h, r => by simp [D.fl] at h
  | n, .brd _ _ _, v, h, r => by simp [D.fl] at h
  | 0, .tup _, v, h, r => by simp [D.fl] at h
  | 0, .lst _, v, h, r => by simp [D.fl] at h
  | n + 1, .tup ds, v, h, r => by
    simp only [Rp] at r
    obtain ⟨a, vs, rfl, h1, h2⟩ := r
    simp only [D.py]
    exact .tup (SqT.of (e _ _ h1)) (fl_dpL e n ds vs (by simpa [D.fl] using h) h2)
  | n + 1, .lst ds, v, h, r => by
    simp only [Rp] at r
    obtain ⟨a, vs, rfl, h1, h2⟩ := r
    simp only [D.py]
    exact .lst (SqL.of (e _ _ h1)) (fl_dpL e n ds vs (by simpa [D.fl] using h) h2)
theorem fl_dpL {G H : Hp} (e : Ex G H) : ∀ (n : Nat) (ds : List D) (vs : List V), D.flL n ds = true → RpL C G ds vs → DpAll K H vs (D.pyL ds)
  | n, [], vs, _, r => by simp only [RpL] at r; subst r; simp only [D.pyL]; exact .nil
  | n, d :: ds, vs, h, r => by
    have h : (D.fl n d && D.flL n ds) = true := by simpa [D.flL] using h
    obtain ⟨h1, h2⟩ := Bool.and_eq_true_iff.mp h
    simp only [RpL] at r
    obtain ⟨v, w, rfl, r1, r2⟩ := r
    simp only [D.pyL]
    exact .cons (fl_dp e n d v h1 r1) (fl_dpL e n ds w h2 r2)
end
/-- xs == [] of an own list -/
theorem ev_eqNil {ds : List D} {n : Nat} (h0 : es[i]? = some (.oL ds)) (hf : D.flL n ds = true) (hn : n < 64) : EvM C (tOp (rEqD K) (tVar i) (tLst tNil)) es (.bl ds.isEmpty) es := fun G H σ Q s q => by
  obtain ⟨o, e, a, vs, rfl, hG, hH, r⟩ := s.ok i _ h0
  refine ⟨_, e, Nat.zero_le _, fun p hp => ?_⟩
  have st := Step.new s.gh hp (.lst [])
  have hap : a ≠ p := fun z => by rw [z, hp] at hH; cases hH
  have hH' : (upd H p (.lst [])) a = some (.lst vs) := by rw [upd_ne hap]; exact hH
  have hl : D.fl (n + 1) (.lst ds) = true := by simpa [D.fl] using hf
  refine ⟨.list (D.pyL ds), .list [], .lst (SqL.of hH') (fl_dpL (Ex.trans s.gh (Ex.new hp)) n ds vs hf r), .lst (SqL.of upd_same) .nil, ?_, by decide, ?_⟩
  · have := fl_shaped hl (by omega)
    simpa only [D.py] using this
  · have ee : PyData.eqv (.list (D.pyL ds)) (.list []) = ds.isEmpty := by
      cases ds <;> simp [D.pyL, PyData.eqv, PyData.eqvAll]
    rw [ee]
    exact q _ _ _ (s.step st) st.rel (by simp only [Rp])
/-- p not in [(..), (..)], pairs of ints -/
def inP (p : Int × Int) (l : List (Int × Int)) : Bool := l.any fun q => q.1 == p.1 && q.2 == p.2
def dP (p : Int × Int) : D := .tup [.int p.1, .int p.2]
theorem ev_notinP {p : Int × Int} {l : List (Int × Int)} (ha : EvM C ta es (dP p) e1) (hb : EvM C tb e1 (.lst (l.map dP)) e2) : EvM C (tOp (rNotInD K) ta tb) es (.bl (!inP p l)) e2 := ev_op ha hb fun G H vx vy Q e h1 h2 q => by
  have f1 : D.fl 1 (dP p) = true := by simp [dP, D.fl, D.flL]
  have f2 : ∀ l : List (Int × Int), D.flL 1 (l.map dP) = true := by
    intro l
    induction l with
    | nil => simp [D.flL]
    | cons a r ih => simp only [List.map_cons, D.flL, ih, Bool.and_true]; simp [dP, D.fl, D.flL]
  have f3 : D.fl 2 (.lst (l.map dP)) = true := by simp only [D.fl]; exact f2 l
  have e3 : D.py (.lst (l.map dP)) = .list (D.pyL (l.map dP)) := by simp only [D.py]
  refine ⟨D.py (dP p), D.pyL (l.map dP), fl_dp e 1 _ _ f1 h1, by rw [← e3]; exact fl_dp e 2 _ _ f3 h2, fl_shaped f1 (by decide), by rw [← e3]; exact fl_shaped f3 (by decide), ?_⟩
  have ee : ∀ l : List (Int × Int), ((D.pyL (l.map dP)).any fun z => PyData.eqv z (D.py (dP p))) = inP p l := by
    intro l
    induction l with
    | nil => simp [D.pyL, inP]
    | cons a r ih =>
      simp only [List.map_cons, D.pyL, List.any_cons, ih]
      simp [dP, D.py, D.pyL, PyData.eqv, PyData.eqvAll, inP]
  rw [ee]
  exact q _ G H (Step.refl e) (by simp only [Rp])
/-- xs + ys, new lists -/
theorem ev_cat {xs ys : List D} (ha : EvM C ta es (.lst xs) e1) (hb : EvM C tb e1 (.lst ys) e2) (hl : xs.length + ys.length ≤ sizeLine) : EvM C (tOp rCat ta tb) es (.lst (xs ++ ys)) e2 := ev_op ha hb fun G H vx vy Q e h1 h2 q => by
  simp only [Rp] at h1 h2
  obtain ⟨a, vs, rfl, a1, a2⟩ := h1
  obtain ⟨b, us, rfl, b1, b2⟩ := h2
  refine ⟨a, b, vs, us, rfl, rfl, e _ _ a1, e _ _ b1, by rw [a2.length, b2.length]; exact hl, fun p hp => ?_⟩
  have st := Step.new e hp (.lst (vs ++ us))
  exact q _ _ _ st (.lstI upd_same ((a2.mono st.gx).append (b2.mono st.gx)))
/-- a text in a written tuple of texts -/
theorem ev_inK {neg : Bool} {s : Str} {p : Addr} {ss : List Str} (ha : EvM C ta es (.str s) e1) (hK : ∀ H, SqT K H p (ss.map V.str)) : EvM C (tOp (rIn K neg) ta (tC (.ref p))) es (.bl (if neg then !decide (s ∈ ss) else decide (s ∈ ss))) e1 := fun G H σ Q s0 q =>
  ha G H σ _ s0 fun v G1 H1 s1 l1 r => by
    simp only [Rp] at r
    subst r
    have ei : inV (.str s) (ss.map V.str) = decide (s ∈ ss) := by
      unfold inV
      rw [List.any_map]
      by_cases h : s ∈ ss
      · rw [decide_eq_true h]
        exact List.any_eq_true.mpr ⟨s, h, by simp [Function.comp, eqV]⟩
      · rw [decide_eq_false h, List.any_eq_false]
        intro z hz
        simp only [Function.comp, eqV]
        intro e
        have e2 : z = s := eq_of_beq e
        rw [e2] at hz
        exact h hz
    refine ⟨p, _, rfl, .inr (hK H1), rfl, ?_, ?_⟩
    · rw [List.all_map]; exact List.all_eq_true.mpr fun _ _ => rfl
    · rw [ei]
      exact q _ G1 H1 s1 l1 (by simp only [Rp])
end
/-! ### runs to a return -/
def RunR (C : Addr) (t : TS) (es : Es) (d : D) : Prop := ∃ eF, Run C t es (.rt d eF)
def RunN (C : Addr) (t : TS) (es : Es) : Prop := ∃ eF, Run C t es (.nx eF)
section
variable {C : Addr} {es e1 e2 eF : Es} {te : TE} {t u : TS} {c : TT} {d d' : D} {b : Bool}
theorem rr_of (h : Run C t es (.rt d eF)) : RunR C t es d := ⟨eF, h⟩
theorem rn_of (h : Run C t es (.nx eF)) : RunN C t es := ⟨eF, h⟩
theorem rr_ret (h : EvM C te es d' e1) (e : d' = d) : RunR C (tRet te) es d := ⟨e1, e ▸ run_ret h⟩
theorem rr_seq (h : Run C t es (.nx e1)) (k : RunR C u e1 d) : RunR C (tSeq t u) es d := k.elim fun eF k => ⟨eF, run_seq h k⟩
theorem rn_seq (h : Run C t es (.nx e1)) (k : RunN C u e1) : RunN C (tSeq t u) es := k.elim fun eF k => ⟨eF, run_seq h k⟩
theorem rr_seqR (h : RunR C t es d) : RunR C (tSeq t u) es d := h.elim fun eF k => ⟨eF, run_seqR k⟩
theorem rr_ifT (h : EvT C c es b e1) (e : b = true) (k : RunR C t e1 d) : RunR C (tIfS c t u) es d := k.elim fun eF k => ⟨eF, run_ifT h e k⟩
theorem rr_ifF (h : EvT C c es b e1) (e : b = false) (k : RunR C u e1 d) : RunR C (tIfS c t u) es d := k.elim fun eF k => ⟨eF, run_ifF h e k⟩
theorem rr_skip (h : EvT C c es b e1) (e : b = false) (k : RunR C u e1 d) : RunR C (tSeq (tIfS c t tNext) u) es d := rr_seq (run_ifF h e run_next) k
theorem rn_skip (h : EvT C c es b e1) (e : b = false) : RunN C (tIfS c t tNext) es := ⟨e1, run_ifF h e run_next⟩
theorem rr_take (h : EvT C c es b e1) (e : b = true) (k : RunR C t e1 d) : RunR C (tSeq (tIfS c t tNext) u) es d := rr_seqR (rr_ifT h e k)
theorem rr_eq (h : RunR C t es d') (e : d' = d) : RunR C t es d := e ▸ h
end
theorem et_andF {C : Addr} {es : Es} {t u : TT} {a : Bool} (h : EvT C t es a es) (e : a = false) : EvT C (tAnd t u) es false es := by
  subst e; exact et_and (b := false) h fun z => by cases z
theorem et_andT {C : Addr} {es : Es} {t u : TT} {a b : Bool} (h : EvT C t es a es) (e : a = true) (k : EvT C u es b es) : EvT C (tAnd t u) es b es := by
  subst e; exact et_and h fun _ => k
theorem et_orT {C : Addr} {es : Es} {t u : TT} {a : Bool} (h : EvT C t es a es) (e : a = true) : EvT C (tOr t u) es true es := by
  subst e; exact et_or (b := true) h fun z => by cases z
theorem et_orF {C : Addr} {es : Es} {t u : TT} {a b : Bool} (h : EvT C t es a es) (e : a = false) (k : EvT C u es b es) : EvT C (tOr t u) es b es := by
  subst e; exact et_or h fun _ => k
theorem ev_andF {C : Addr} {es : Es} {t u : TE} {a : Bool} (h : EvM C t es (.bl a) es) (e : a = false) : EvM C (tAndV t u) es (.bl false) es := by
  subst e; exact ev_andV (b := false) h fun z => by cases z
theorem ev_andT {C : Addr} {es : Es} {t u : TE} {a b : Bool} (h : EvM C t es (.bl a) es) (e : a = true) (k : EvM C u es (.bl b) es) : EvM C (tAndV t u) es (.bl b) es := by
  subst e; exact ev_andV h fun _ => k
/-! ### while, turn by turn -/
inductive WhR (C : Addr) (c : TT) (t : TS) : Nat → Es → Oc → Prop
  | stop {n : Nat} {e e1 : Es} : EvT C c e false e1 → WhR C c t n e (.nx e1)
  | step {n : Nat} {e e1 e2 : Es} {o : Oc} : EvT C c e true e1 → Run C t e1 (.nx e2) → WhR C c t n e2 o → WhR C c t (n + 1) e o
  | bk {n : Nat} {e e1 e2 : Es} : EvT C c e true e1 → Run C t e1 (.bk e2) → WhR C c t n e (.nx e2)
  | rt {n : Nat} {e e1 e2 : Es} {d : D} : EvT C c e true e1 → Run C t e1 (.rt d e2) → WhR C c t n e (.rt d e2)
theorem run_wh {C : Addr} {c : TT} {t : TS} {n : Nat} {es : Es} {o : Oc} (h : WhR C c t n es o) : Run C (tWhile c t) es o := by
  refine run_while (fun m e => WhR C c t m e o) n h fun m e w => ?_
  cases w with
  | stop h1 => exact ⟨false, _, h1, fun _ => rfl, fun z => by cases z⟩
  | step h1 h2 h3 => exact ⟨true, _, h1, fun z => by (cases z), fun _ => ⟨_, h2, _, Nat.lt_succ_self _, h3⟩⟩
  | bk h1 h2 => exact ⟨true, _, h1, fun z => by (cases z), fun _ => ⟨_, h2, rfl⟩⟩
  | rt h1 h2 => exact ⟨true, _, h1, fun z => by (cases z), fun _ => ⟨_, h2, rfl⟩⟩
theorem rr_loop {C : Addr} {c : TT} {t u : TS} {es : Es} {d : D} {Pst : Es → Prop} (h : ∃ n e, WhR C c t n es (.nx e) ∧ Pst e) (k : ∀ e, Pst e → RunR C u e d) : RunR C (tSeq (tWhile c t) u) es d := by
  obtain ⟨n, e, h1, h2⟩ := h
  exact rr_seq (run_wh h1) (k e h2)
theorem rr_for {C : Addr} {K : PySem.W.Frag} {te : TE} {g : TG} {t u : TS} {es e1 : Es} {xs : List D} {d : D} {Pst : Es → Prop} (h : EvM C te es (.lst xs) e1) (l : ∃ e, LoopR C g t xs e1 (.nx e) ∧ Pst e) (k : ∀ e, Pst e → RunR C u e d) : RunR C (tSeq (tFor (iList K te) g t) u) es d := by
  obtain ⟨e, h1, h2⟩ := l
  exact rr_seq (run_for h h1) (k e h2)
/-! ### defs -/
section
variable {P : Program} {w : World} {K : PySem.W.Frag} {mg : Str → Option Value} {base : Heap} {C : Addr}
def slots (N : List Str) (ds : List D) : Es := ds.map Sl.p ++ List.replicate (N.length - ds.length) Sl.no
theorem RpL.start {G H : Hp} {N : List Str} {ds : List D} {vs : List V} (e : Ex G H) (r : RpL C G ds vs) : SR C G H (slots N ds) (L2.start N vs) := by
  have hl := r.length
  refine ⟨e, by simp [slots, L2.start, hl], fun i s h => ?_, fun i j s t a h1 h2 o1 o2 => ?_⟩
  · unfold slots at h
    unfold L2.start
    by_cases c : i < ds.length
    · rw [List.getElem?_append_left (by simpa using c), List.getElem?_map, List.getElem?_eq_getElem c] at h
      cases h
      obtain ⟨v, e1, e2⟩ := r.get (List.getElem?_eq_getElem c)
      rw [List.getElem?_append_left (by simp [hl, c]), List.getElem?_map, e1]
      exact ⟨_, rfl, v, rfl, e2⟩
    · rw [List.getElem?_append_right (by simp; omega)] at h
      have hs := List.mem_of_getElem? h
      rw [List.mem_replicate] at hs
      rw [hs.2]
      have hi : i < (vs.map some ++ List.replicate (N.length - vs.length) (none : Option V)).length := by
        have := (List.getElem?_eq_some_iff.mp h).1
        simp at this ⊢
        omega
      exact ⟨_, List.getElem?_eq_getElem hi, trivial⟩
  · exfalso
    have hs := List.mem_of_getElem? h1
    unfold slots at hs
    rcases List.mem_append.mp hs with q | q
    · obtain ⟨d, _, rfl⟩ := List.mem_map.mp q
      cases o1
    · rw [(List.mem_replicate.mp q).2] at o1
      cases o1
theorem notOw_slots {N : List Str} {ds : List D} {σ : St} {a : Addr} : ¬ Ow (slots N ds) σ a := fun ⟨i, s, h, o, _⟩ => by
  have hs := List.mem_of_getElem? h
  unfold slots at hs
  rcases List.mem_append.mp hs with q | q
  · obtain ⟨d, _, rfl⟩ := List.mem_map.mp q
    cases o
  · rw [(List.mem_replicate.mp q).2] at o
    cases o
/-- THE RULE for a def over data -/
theorem fn_pure {x qual : Str} {st : Stmt} {f : Addr} {fd : FuncData} {N ps : List Str} {k : Nat} {rel : List D → D → Prop} (F : Hk.Fn K x qual st f fd) (S : FnScope N ps (defScope st)) (hl : ∀ ds d, rel ds d → ds.length = ps.length)
    (hb : ∀ (cdv : Value) (A : Around) (outer : List Env) (s : Shared) (H : Hp) (E : XK) (ds : List D) (d : D), Room k (A.deeper (envOfC qual (defScope st) s.heap.objs.size f cdv)) → rel ds d →
      ∃ t, PSs (cxOf CX0 P w K mg base N qual (defScope st) f cdv A outer s H E).nox (defBody st) t ∧ RunR C t (slots N ds) d) : FnOk P w K mg base CX0 (k + 1) f fd ps (spP C rel) := by
  refine F.ok S (fun vs H Q E ⟨G, ds, d, e, r, h, _⟩ => by rw [r.length]; exact hl ds d h) fun cdv A outer s H vs Q E hr ⟨G, ds, d, e, r, h, q⟩ => ?_
  obtain ⟨t, h1, eF, h2⟩ := hb cdv A outer s H E ds d hr h
  refine ⟨t, h1.nox, h2 _ G H (L2.start N vs) (r.start e) fun v G' H' σ' s' l' rv => ?_⟩
  exact q v G' H' ⟨l'.gx, s'.gh, fun a h1 h2 => ⟨(l'.kp a h1 h2 notOw_slots).1, (l'.kp a h1 h2 notOw_slots).2.1⟩⟩ rv
/-- a def that ends without a return -/
theorem fn_pureN {x qual : Str} {st : Stmt} {f : Addr} {fd : FuncData} {N ps : List Str} {k : Nat} {rel : List D → D → Prop} (F : Hk.Fn K x qual st f fd) (S : FnScope N ps (defScope st)) (hl : ∀ ds d, rel ds d → ds.length = ps.length) (hd : ∀ ds d, rel ds d → d = .non)
    (hb : ∀ (cdv : Value) (A : Around) (outer : List Env) (s : Shared) (H : Hp) (E : XK) (ds : List D), Room k (A.deeper (envOfC qual (defScope st) s.heap.objs.size f cdv)) → rel ds .non →
      ∃ t, PSs (cxOf CX0 P w K mg base N qual (defScope st) f cdv A outer s H E).nox (defBody st) t ∧ RunN C t (slots N ds)) : FnOk P w K mg base CX0 (k + 1) f fd ps (spP C rel) := by
  refine F.ok S (fun vs H Q E ⟨G, ds, d, e, r, h, _⟩ => by rw [r.length]; exact hl ds d h) fun cdv A outer s H vs Q E hr ⟨G, ds, d, e, r, h, q⟩ => ?_
  have ed := hd ds d h
  subst ed
  obtain ⟨t, h1, eF, h2⟩ := hb cdv A outer s H E ds hr h
  refine ⟨t, h1.nox, h2 _ G H (L2.start N vs) (r.start e) fun G' H' σ' s' l' => ?_⟩
  exact q .non G' H' ⟨l'.gx, s'.gh, fun a h1 h2 => ⟨(l'.kp a h1 h2 notOw_slots).1, (l'.kp a h1 h2 notOw_slots).2.1⟩⟩ (by simp only [Rp])
/-- THE RULE for a def that changes its first argument, a list of one number -/
theorem fn_mut {x qual : Str} {st : Stmt} {f : Addr} {fd : FuncData} {y : Str} {N ps : List Str} {k : Nat} {rel : Int → List D → D → Int → Prop} (F : Hk.Fn K x qual st f fd) (S : FnScope (y :: N) (y :: ps) (defScope st)) (hl : ∀ n ds d n', rel n ds d n' → ds.length = ps.length)
    (hb : ∀ (cdv : Value) (A : Around) (outer : List Env) (s : Shared) (H : Hp) (E : XK) (n : Int) (ds : List D) (d : D) (n' : Int), Room k (A.deeper (envOfC qual (defScope st) s.heap.objs.size f cdv)) → rel n ds d n' →
      ∃ t, PSs (cxOf CX0 P w K mg base (y :: N) qual (defScope st) f cdv A outer s H E).nox (defBody st) t ∧ ∀ p, ∃ eF, eF[0]? = some (.cel p [.int n']) ∧ Run C t (.cel p [.int n] :: slots N ds) (.rt d eF)) : FnOk P w K mg base CX0 (k + 1) f fd (y :: ps) (spM C rel) := by
  refine F.ok S (fun vs H Q E ⟨G, p, us, n, ds, d, n', e, _, _, _, r, h, _⟩ => by rw [e, List.length_cons, List.length_cons, r.length, hl n ds d n' h]) fun cdv A outer s H vs Q E hr ⟨G, p, us, n, ds, d, n', e0, e, hG, hH, r, h, q⟩ => ?_
  subst e0
  obtain ⟨t, h1, h2⟩ := hb cdv A outer s H E n ds d n' hr h
  obtain ⟨eF, h3, h4⟩ := h2 p
  have s0 := r.start (N := N) e
  have es0 : L2.start (y :: N) (.ref p :: us) = some (.ref p) :: L2.start N us := by
    unfold L2.start
    simp only [List.map_cons, List.length_cons, Nat.add_sub_add_right, List.cons_append]
  have sr : SR C G H (.cel p [.int n] :: slots N ds) (L2.start (y :: N) (.ref p :: us)) := by
    rw [es0]
    refine ⟨e, by rw [List.length_cons, List.length_cons, s0.len], fun i sl hi => ?_, fun i j sa sb a q1 q2 o1 o2 q3 q4 => ?_⟩
    · cases i with
      | zero => cases hi; exact ⟨_, rfl, rfl, hG, _, hH, by simp only [RpL, Rp]; exact ⟨_, _, rfl, rfl, rfl⟩⟩
      | succ i => exact s0.ok i sl hi
    · have no : ∀ (i : Nat) (sa : Sl), (slots N ds)[i]? = some sa → sa.own = true → False := fun i sa h o => by
        have hs := List.mem_of_getElem? h
        unfold slots at hs
        rcases List.mem_append.mp hs with q | q
        · obtain ⟨d, _, rfl⟩ := List.mem_map.mp q
          cases o
        · rw [(List.mem_replicate.mp q).2] at o
          cases o
      cases i with
      | zero => cases j with
        | zero => rfl
        | succ j => exact (no j sb q2 o2).elim
      | succ i => exact (no i sa q1 o1).elim
  refine ⟨t, h1.nox, h4 _ G H _ sr fun v G' H' σ' s' l' rv => ?_⟩
  -- the slot's place stays what it was
  obtain ⟨o, e1, e2, g1, vs2, g2, g3⟩ := s'.ok 0 _ h3
  simp only [RpL, Rp] at g3
  obtain ⟨z, _, rfl, rfl, rfl⟩ := g3
  refine q v G' H' l'.gx s'.gh g1 g2 (fun a a1 a2 a3 => ?_) rv
  have no : ¬ Ow (.cel p [.int n] :: slots N ds) (L2.start (y :: N) (.ref p :: us)) a := fun ⟨i, sl, hi, o, h5⟩ => by
    cases i with
    | zero =>
      rw [es0] at h5
      cases h5
      exact a1 rfl
    | succ i => exact notOw_slots (a := a) (σ := L2.start N us) (N := N) (ds := ds) ⟨i, sl, hi, o, by rw [es0] at h5; exact h5⟩
  exact ⟨(l'.kp a a2 a3 no).1, (l'.kp a a2 a3 no).2.1⟩
end
end Sw
end
section
/-! What the defs lean on, the calls in short, the data. -/
namespace Sw
open PySem PySem.Spec PyProof.Rows L2
/-- what the top has written, but for the defs -/
structure Txt (K : PySem.W.Frag) (mg : Str → Option Value) (C : Addr) : Prop where
  cl : Cls K C
  nW : NoAttr K C "wide"
  nH : NoAttr K C "high"
  nK : NoAttr K C "kinds"
  mB : mg "Board" = some (.ref C)
  mKINDS : mg "KINDS" = some (.ref (He.ga K "KINDS"))
  mWAYS : mg "WAYS" = some (.ref (He.ga K "WAYS"))
  mEXCHANGING : mg "EXCHANGING" = some (.ref (He.ga K "EXCHANGING"))
  tK : ∀ H, SqT K H (He.ga K "KINDS") ((["-", "|"] : List Str).map V.str)
  tW : ∀ H, SqT K H (He.ga K "WAYS") ((["same", "quarter", "half", "back", "flip", "mirror", "cross", "anti"] : List Str).map V.str)
  tE : ∀ H, SqT K H (He.ga K "EXCHANGING") ((["quarter", "back", "cross", "anti"] : List Str).map V.str)
  b_isinstance : mg "isinstance" = none
  b_len : mg "len" = none
  b_min : mg "min" = none
  b_range : mg "range" = none
  b_sum : mg "sum" = none
  b_sorted : mg "sorted" = none
  b_all : mg "all" = none
  b_int : mg "int" = none
  b_bool : mg "bool" = none
  b_str : mg "str" = none
  b_list : mg "list" = none
  b_tuple : mg "tuple" = none
/-- a def of the module stands as its text says -/
structure Df (K : PySem.W.Frag) (mg : Str → Option Value) (x : Str) (st : Stmt) : Prop where
  ex : ∃ f fd, Hk.Fn K x x st f fd ∧ mg x = some (.ref f)
/-- a def of the module keeps its promise -/
structure CallOk (P : Program) (w : World) (K : PySem.W.Frag) (mg : Str → Option Value) (base : Heap) (x : Str) (k : Nat) (ps : List Str) (sp : Sp) : Prop where
  ex : ∃ f fd, FnOk P w K mg base CX0 k f fd ps sp ∧ mg x = some (.ref f) ∧ PySem.W.keepIn K (.ref f) = true ∧ Binds K fd ps []
/-- a property's getter keeps its promise -/
structure PropOk (P : Program) (w : World) (K : PySem.W.Frag) (mg : Str → Option Value) (base : Heap) (C : Addr) (x : Str) (k : Nat) (sp : Sp) : Prop where
  ex : ∃ p f fd, PropOf K C x p f ∧ FnOk P w K mg base CX0 k f fd ["self"] sp ∧ Binds K fd ["self"] []
structure MethOk (P : Program) (w : World) (K : PySem.W.Frag) (mg : Str → Option Value) (base : Heap) (C : Addr) (x : Str) (k : Nat) (ps : List Str) (sp : Sp) : Prop where
  ex : ∃ f fd, Meth K C x f ∧ FnOk P w K mg base CX0 k f fd ps sp ∧ Binds K fd ps []
structure MakeOk (P : Program) (w : World) (K : PySem.W.Frag) (mg : Str → Option Value) (base : Heap) (C : Addr) (k : Nat) (ps : List Str) (sp : Sp) : Prop where
  ex : ∃ f fd, Mk K C f ∧ FnOk P w K mg base CX0 k f fd ps sp ∧ Binds K fd ps []
section
variable {X : Cx} {x : Str} {k n : Nat} {ps : List Str} {sp : Sp} {e o : Expr} {es : List Expr} {p pos : Pos} {t : TA} {ta : TE}
theorem pe_callC (c : CallOk X.prog X.w X.K X.mg X.base x k ps sp) (hr : Room n X.A) (hn : k ≤ n) (hg : Gl X x) (ha : PA X (e :: es) t)
    (hdb : (x == ("__debug__" : Str)) = false := by decide) (he : starEach (e :: es) X.env = (false, eval e X.env) :: starEach es X.env := by rfl) (hpl : (backTo pos (starEach es X.env)).any (·.1) = false := by rfl) :
    PE X (.Call (.Name x p) (e :: es) [] pos) (tCall sp [] E0 t) := by
  obtain ⟨f, fd, h1, h2, h3, h4⟩ := c.ex
  exact pe_call h1 (hr.mono hn) hg h2 h3 h4 .nil pass0 ha hdb he hpl
theorem pe_propC {C : Addr} {mg : Str → Option Value} (T : Txt X.K mg C) (c : PropOk X.prog X.w X.K X.mg X.base C x k sp) (hr : Room n X.A) (he : PE X o ta) (hn : k + 1 ≤ n)
    (hab : attributeBase o x X.env (eval o X.env) = eval o X.env) : PE X (.Attribute o x pos) (tProp C sp [] E0 ta) := by
  obtain ⟨q, f, fd, h1, h2, h3⟩ := c.ex
  exact pe_prop he T.cl h1 h2 (hr.mono hn) h3 .nil pass0 hab
theorem pe_methC {C : Addr} {mg : Str → Option Value} {pl : Sem Bool} {apos : Pos} (T : Txt X.K mg C) (c : MethOk X.prog X.w X.K X.mg X.base C x k ps sp) (hr : Room n X.A) (hn : k ≤ n) (he : PE X o ta) (ha : PA X (e :: es) t)
    (hst : starEach (e :: es) X.env = (false, eval e X.env) :: starEach es X.env := by rfl) (hpl : (backTo pos (starEach es X.env)).any (·.1) = false := by rfl)
    (ht : eval (.Call (.Attribute o x apos) (e :: es) [] pos) X.env = (do
      let ov ← eval o X.env
      standAt apos.atName
      let (f, first) ← holding [ov] (getMethod ov x pl)
      callWith pos f first (backTo pos (starEach (e :: es) X.env)) (backToKw pos (keywordEach [] X.env))) := by rfl) :
    PE X (.Call (.Attribute o x apos) (e :: es) [] pos) (tMeth C x sp [] E0 ta t) := by
  obtain ⟨f, fd, h1, h2, h3⟩ := c.ex
  exact pe_meth he T.cl h1 h2 (hr.mono hn) h3 .nil pass0 ha hst hpl ht
theorem pe_makeC {C : Addr} (T : Txt X.K X.mg C) (c : MakeOk X.prog X.w X.K X.mg X.base C k ps sp) (hr : Room n X.A) (hn : k + 1 ≤ n) (hg : Gl X "Board") (ha : PA X (e :: es) t)
    (he : starEach (e :: es) X.env = (false, eval e X.env) :: starEach es X.env := by rfl) (hpl : (backTo pos (starEach es X.env)).any (·.1) = false := by rfl) :
    PE X (.Call (.Name "Board" p) (e :: es) [] pos) (tMake C sp [] E0 t) := by
  obtain ⟨f, fd, h1, h2, h3⟩ := c.ex
  exact pe_make h1 h2 (hr.mono hn) hg T.mB h3 .nil pass0 ha (by decide) he hpl
end
theorem hu65 {k : Nat} {A : Around} (hr : Room k A) : A.units + 65 < cLine := by
  have := hr.un
  omega
section
variable {P : Program} {w : World} {K : PySem.W.Frag} {mg : Str → Option Value} {base : Heap}
theorem CallOk.mk' {x : Str} {st : Stmt} {k : Nat} {ps : List Str} {sp : Sp} (d : Df K mg x st) (h : ∀ f fd, Hk.Fn K x x st f fd → FnOk P w K mg base CX0 k f fd ps sp)
    (b : ∀ (kV doc pm : Value) (an : Option Addr) (cdv ct : Value) (us : List Value), us.length = ps.length → bindArgs (PySem.W.fnOf x x (defArgs st) (defBody st) (defScope st) .none kV doc pm an cdv ct) ⟨us, []⟩ = pure (ps.zip us)) : CallOk P w K mg base x k ps sp := by
  obtain ⟨f, fd, F, m⟩ := d.ex
  exact ⟨f, fd, h f fd F, m, F.kp, F.bindsN b⟩
end
/-! ### the data -/
open Sd
def ks (ly : Bool) : Str := if ly then "-" else "|"
def encM (m : Mir) : D := .tup [.int m.x, .int m.y, .str (ks m.ly)]
def encG (q : P2 × Mir) : D := .tup [.int q.1.1, .int q.1.2, encM q.2]
def encF (F : Fr) : D := .tup [.int F.A, .int F.D, .int F.g, .int F.f, .lst (F.goals.map encG)]
def encO (o : Option Int) : D := match o with
  | none => .non
  | some n => .int n
/-- frames as they come up -/
structure FrW (F : Fr) : Prop extends FrS F where
  Ab : F.A < 2 ^ 120
  Db : F.D < 2 ^ 120
  gl : F.goals.length ≤ 100
/-- numbers of so many bits -/
theorem small_mul {i j : Int} {a b : Nat} (ha : i.natAbs < 2 ^ a) (hb : j.natAbs < 2 ^ b) (h0 : 0 < a := by decide) (h1 : 0 < b := by decide) (h : a + b ≤ 1000000 := by decide) : CMulW i j := wide_mul ha hb h0 h1 h
theorem small_div {i j : Int} {b : Nat} (h : 0 < j) (hb : j.natAbs < 2 ^ b) (h0 : 0 < b := by decide) (h9 : b ≤ 9000 := by decide) : CDivW i j := wide_div h hb h0 h9
end Sw
end
section
open PySem PySem.Spec PyProof.Rows L2 Sw Sd
local macro_rules | `(tactic| walk_at "ev") => `(tactic| first
  | with_reducible exact ev_cI
  | with_reducible exact ev_cS
  | with_reducible exact ev_cB
  | with_reducible exact ev_cN
  | with_reducible exact ea_nil
  | ((with_reducible apply ev_var); rfl)
  | ((with_reducible apply ea_cons); (· walk_at "ev"); (· walk_at "ev"))
  | ((with_reducible apply ev_add); (· walk_at "ev"); (· walk_at "ev"))
  | ((with_reducible apply ev_sub); (· walk_at "ev"); (· walk_at "ev"))
  | ((with_reducible apply ev_min2); (· walk_at "ev"); (· walk_at "ev"))
  | ((with_reducible apply ev_lt); (· walk_at "ev"); (· walk_at "ev"))
  | ((with_reducible apply ev_le); (· walk_at "ev"); (· walk_at "ev"))
  | ((with_reducible apply ev_gt); (· walk_at "ev"); (· walk_at "ev"))
  | ((with_reducible apply ev_ge); (· walk_at "ev"); (· walk_at "ev"))
  | ((with_reducible apply ev_eqI); (· walk_at "ev"); (· walk_at "ev"))
  | ((with_reducible apply ev_eqS); (· walk_at "ev"); (· walk_at "ev"))
  | ((with_reducible apply ev_eqB); (· walk_at "ev"); (· walk_at "ev"))
  | ((with_reducible apply ev_neI); (· walk_at "ev"); (· walk_at "ev"))
  | ((with_reducible apply ev_neg); (· walk_at "ev"))
  | ((with_reducible apply ev_isN); (· walk_at "ev"))
  | ((with_reducible apply ev_notN); (· walk_at "ev"))
  | ((with_reducible apply et_test); (· walk_at "ev"))
  | ((with_reducible apply et_B); (· walk_at "ev"))
  | ((with_reducible apply et_not); (· walk_at "ev"))
  | ((with_reducible apply ev_tup); (· walk_at "ev"); (· exact Nat.le_of_ble_eq_true rfl))
  | ((with_reducible apply ev_lst); (· walk_at "ev"); (· exact Nat.le_of_ble_eq_true rfl))
  | ((with_reducible apply ev_ix); (· walk_at "ev"); (· walk_at "ev"); (· rfl); (· rfl))
  | ((with_reducible apply ev_mulS); (· walk_at "ev"); (· walk_at "ev"); (· first | exact .inl ⟨by decide, by decide⟩ | exact .inr ⟨by decide, by decide⟩))
  | ((with_reducible apply ev_mulW); (· walk_at "ev"); (· walk_at "ev"); (· walk_at "sd"))
  | ((with_reducible apply ev_mod); (· walk_at "ev"); (· walk_at "ev"); (· walk_at "sd"))
  | ((with_reducible apply ev_div); (· walk_at "ev"); (· walk_at "ev"); (· walk_at "sd"))
  | ((with_reducible apply ev_prop); (· walk_at "ev"); (· walk_at "pr"))
  | ((with_reducible apply ev_chain); (· walk_at "ev"); (· walk_at "ev"); (· walk_at "ev"); (· exact r2_cmp); (· exact r2_cmp))
  | ((with_reducible apply ev_call); (· walk_at "ev"); (· walk_at "rel")))
local macro_rules | `(tactic| walk_at "sd") => `(tactic| first | assumption | decide | omega)
local macro_rules | `(tactic| walk_at "ret") => `(tactic| (apply rr_ret; (· walk_at "ev"); (try rfl)))
local macro_rules | `(tactic| walk_at "asg") => `(tactic| (apply run_asg; (· walk_at "ev"); (· walk_at "tgt")))
local macro_rules | `(tactic| walk_at "tgt") => `(tactic| first
  | with_reducible exact eg_name
  | ((apply eg_tup); (· rfl); (· walk_at "tgt"))
  | with_reducible exact egs_nil
  | ((with_reducible apply egs_cons); (· walk_at "tgt"); (· walk_at "tgt")))
local macro_rules | `(tactic| walk_at "set") => `(tactic| (apply rr_seq; (· walk_at "asg")))
local macro_rules | `(tactic| walk_at "par") => `(tactic| (apply rr_seq; (· apply run_par; walk_at "ev")))
local macro_rules | `(tactic| walk_at "asgE") => `(tactic| (apply run_eq; (· walk_at "asg"); (· rfl)))
local macro_rules | `(tactic| walk_at "parE") => `(tactic| (apply run_eq; (· apply run_par; walk_at "ev"); (· rfl)))
local macro_rules | `(tactic| walk_at "evr") => `(tactic| first | (apply et_is; (· walk_at "ev"); (· rfl)) | (apply ev_is; (· walk_at "ev"); (· rfl)))
local macro_rules | `(tactic| walk_at "drop") => `(tactic| (apply rr_seq; (· apply run_drop; walk_at "ev")))

namespace Sw
open Sd
section
variable {P : Program} {w : World} {K : PySem.W.Frag} {mg : Str → Option Value} {base : Heap} {C : Addr}
/-! ### behind_mirror -/
inductive r_behind : List D → D → Prop where
  | mk (p1 p2 n : Int) (ly : Bool) : r_behind [.tup [.int p1, .int p2], .int n, .str (ks ly)] (dP (behind (p1, p2) n ly))
theorem ok_behind (d : Df K mg "behind_mirror" s_behind_mirror) : CallOk P w K mg base "behind_mirror" 1 ["place", "steps", "kind"] (spP C r_behind) := by
  refine .mk' d (fun f fd F => fn_pure F sc_behind_mirror (fun ds d h => by cases h <;> rfl) fun cdv A outer s H E ds d hr h => ?_) (fun _ _ _ _ _ _ us hl => match us, hl with | [_, _, _], _ => rfl)
  cases h with
  | mk p1 p2 n ly =>
    refine ⟨_, (pss_cons (ps_if (pt_cmpR op_eq (pv 2) pe_str (nomark _)) (pss_one (ps_ret (pe_tup (pa_cons (pe_op op_add (pe_ix ix_seq (pv 0) pe_int (fun _ _ => rfl)) (pv 1)) (pa_cons (pe_op op_sub (pe_un un_neg (pe_ix ix_seq (pv 0) pe_int (fun _ _ => rfl))) (pv 1)) pa_nil))))) pss_nil)
      (pss_one (ps_ret (pe_tup (pa_cons (pe_op op_sub (pe_un un_neg (pe_ix ix_seq (pv 0) pe_int (fun _ _ => rfl))) (pv 1)) (pa_cons (pe_op op_add (pe_ix ix_seq (pv 0) pe_int (fun _ _ => rfl)) (pv 1)) pa_nil)))))), ?_⟩
    cases ly
    · refine rr_skip (by walk_at "ev") (by decide +kernel) ?_
      walk_at "ret"
    · refine rr_take (by walk_at "ev") (by decide +kernel) ?_
      walk_at "ret"
/-! ### folded_square, folded_point -/
inductive r_fsq : List D → D → Prop where
  | mk (size far : Int) (h : 1 ≤ size) : r_fsq [.int size, .int far] (.int (foldSq size far))
theorem ok_fsq (d : Df K mg "folded_square" s_folded_square) (T : Txt K mg C) : CallOk P w K mg base "folded_square" 1 ["size", "far"] (spP C r_fsq) := by
  refine .mk' d (fun f fd F => fn_pure F sc_folded_square (fun ds d h => by cases h <;> rfl) fun cdv A outer s H E ds d hr h => ?_) (fun _ _ _ _ _ _ us hl => match us, hl with | [_, _], _ => rfl)
  cases h with
  | mk size far h =>
    refine ⟨_, (pss_cons (ps_set (i := 2) sc_folded_square.nd rfl (Or.inl rfl) (pe_op op_mod (pe_op op_sub (pv 1) pe_int) (pe_op op_mul pe_int (pv 0))))
      (pss_one (ps_ret (pe_callB (call_min2 rfl) rfl T.b_min (by decide +kernel) (pa_cons (pv 2) (pa_cons (pe_op op_sub (pe_op op_sub (pe_op op_mul pe_int (pv 0)) pe_int) (pv 2)) pa_nil)))))), ?_⟩
    walk_at "set"
    walk_at "ret"
inductive r_fpt : List D → D → Prop where
  | mk (size far : Int) (h : 1 ≤ size) : r_fpt [.int size, .int far] (.int (foldPt size far))
theorem ok_fpt (d : Df K mg "folded_point" s_folded_point) (T : Txt K mg C) : CallOk P w K mg base "folded_point" 1 ["size", "far"] (spP C r_fpt) := by
  refine .mk' d (fun f fd F => fn_pure F sc_folded_point (fun ds d h => by cases h <;> rfl) fun cdv A outer s H E ds d hr h => ?_) (fun _ _ _ _ _ _ us hl => match us, hl with | [_, _], _ => rfl)
  cases h with
  | mk size far h =>
    refine ⟨_, (pss_cons (ps_set (i := 2) sc_folded_point.nd rfl (Or.inl rfl) (pe_op op_mod (pv 1) (pe_op op_mul pe_int (pv 0))))
      (pss_one (ps_ret (pe_callB (call_min2 rfl) rfl T.b_min (by decide +kernel) (pa_cons (pv 2) (pa_cons (pe_op op_sub (pe_op op_mul pe_int (pv 0)) (pv 2)) pa_nil)))))), ?_⟩
    walk_at "set"
    walk_at "ret"
/-! ### points_of -/
def ptsD (s : P2) : D := .lst [dP (pts s).1, dP (pts s).2]
inductive r_pts : List D → D → Prop where
  | mk (i j : Int) : r_pts [.tup [.int i, .int j]] (ptsD (i, j))
theorem ok_pts (d : Df K mg "points_of" s_points_of) : CallOk P w K mg base "points_of" 1 ["square"] (spP C r_pts) := by
  refine .mk' d (fun f fd F => fn_pure F sc_points_of (fun ds d h => by cases h <;> rfl) fun cdv A outer s H E ds d hr h => ?_) (fun _ _ _ _ _ _ us hl => match us, hl with | [_], _ => rfl)
  cases h with
  | mk i j =>
    refine ⟨_, (pss_cons (ps_asg (pv 0) (pg_tup rfl (pgs_cons (pg_name (i := 1) sc_points_of.nd rfl (Or.inl rfl)) (pgs_cons (pg_name (i := 2) sc_points_of.nd rfl (Or.inl rfl)) pgs_nil))))
      (pss_cons (ps_if (pt_cmpR op_eq (pe_op op_mod (pe_op op_add (pv 1) (pv 2)) pe_int) pe_int (nomark _)) (pss_one (ps_ret (pe_lst (pa_cons (pe_tup (pa_cons (pe_op op_add (pv 1) pe_int) (pa_cons (pv 2) pa_nil))) (pa_cons (pe_tup (pa_cons (pv 1) (pa_cons (pe_op op_add (pv 2) pe_int) pa_nil))) pa_nil))))) pss_nil)
      (pss_one (ps_ret (pe_lst (pa_cons (pe_tup (pa_cons (pv 1) (pa_cons (pv 2) pa_nil))) (pa_cons (pe_tup (pa_cons (pe_op op_add (pv 1) pe_int) (pa_cons (pe_op op_add (pv 2) pe_int) pa_nil))) pa_nil))))))), ?_⟩
    walk_at "set"
    by_cases c : (i + j) % 2 = 0
    · refine rr_take (by walk_at "ev") (decide_eq_true c) ?_
      have e : pts (i, j) = ((i + 1, j), (i, j + 1)) := if_pos c
      unfold ptsD
      rw [e]
      walk_at "ret"
    · refine rr_skip (by walk_at "ev") (decide_eq_false c) ?_
      have e : pts (i, j) = ((i, j), (i + 1, j + 1)) := if_neg c
      unfold ptsD
      rw [e]
      walk_at "ret"
/-! ### unfolded -/
inductive r_unf : List D → D → Prop where
  | mk (i j x y : Int) : r_unf [.tup [.int i, .int j], .tup [.int x, .int y]] (dP (unf (i, j) (x, y)))
theorem ok_unf (d : Df K mg "unfolded" s_unfolded) : CallOk P w K mg base "unfolded" 1 ["square", "point"] (spP C r_unf) := by
  refine .mk' d (fun f fd F => fn_pure F sc_unfolded (fun ds d h => by cases h <;> rfl) fun cdv A outer s H E ds d hr h => ?_) (fun _ _ _ _ _ _ us hl => match us, hl with | [_, _], _ => rfl)
  cases h with
  | mk i j x y =>
    refine ⟨_, (pss_cons (ps_asg (pv 1) (pg_tup rfl (pgs_cons (pg_name (i := 2) sc_unfolded.nd rfl (Or.inl rfl)) (pgs_cons (pg_name (i := 3) sc_unfolded.nd rfl (Or.inl rfl)) pgs_nil))))
      (pss_cons (ps_if (pt_cmpR op_eq (pv 2) (pe_ix ix_seq (pv 0) pe_int (fun _ _ => rfl)) (nomark _)) (pss_one (ps_set (i := 2) sc_unfolded.nd rfl (Or.inl rfl) (pe_un un_neg (pv 2)))) pss_nil)
      (pss_cons (ps_if (pt_cmpR op_eq (pv 3) (pe_ix ix_seq (pv 0) pe_int (fun _ _ => rfl)) (nomark _)) (pss_one (ps_set (i := 3) sc_unfolded.nd rfl (Or.inl rfl) (pe_un un_neg (pv 3)))) pss_nil)
      (pss_one (ps_ret (pe_tup (pa_cons (pv 2) (pa_cons (pv 3) pa_nil)))))))), ?_⟩
    walk_at "set"
    unfold unf dP
    by_cases c1 : x = i
    · refine rr_seq (run_ifT (by walk_at "ev") (decide_eq_true c1) (by walk_at "asg")) ?_
      by_cases c2 : y = j
      · refine rr_seq (run_ifT (by walk_at "ev") (decide_eq_true c2) (by walk_at "asg")) ?_
        rw [if_pos c1, if_pos c2]
        walk_at "ret"
      · refine rr_skip (by walk_at "ev") (decide_eq_false c2) ?_
        rw [if_pos c1, if_neg c2]
        walk_at "ret"
    · refine rr_skip (by walk_at "ev") (decide_eq_false c1) ?_
      by_cases c2 : y = j
      · refine rr_seq (run_ifT (by walk_at "ev") (decide_eq_true c2) (by walk_at "asg")) ?_
        rw [if_neg c1, if_pos c2]
        walk_at "ret"
      · refine rr_skip (by walk_at "ev") (decide_eq_false c2) ?_
        rw [if_neg c1, if_neg c2]
        walk_at "ret"
end
end Sw
end
section
open PySem PySem.Spec PyProof.Rows L2 Sw Sd
local macro_rules | `(tactic| walk_at "ev") => `(tactic| first
  | with_reducible exact ev_cI
  | with_reducible exact ev_cS
  | with_reducible exact ev_cB
  | with_reducible exact ev_cN
  | with_reducible exact ea_nil
  | ((with_reducible apply ev_var); rfl)
  | ((with_reducible apply ea_cons); (· walk_at "ev"); (· walk_at "ev"))
  | ((with_reducible apply ev_add); (· walk_at "ev"); (· walk_at "ev"))
  | ((with_reducible apply ev_sub); (· walk_at "ev"); (· walk_at "ev"))
  | ((with_reducible apply ev_min2); (· walk_at "ev"); (· walk_at "ev"))
  | ((with_reducible apply ev_lt); (· walk_at "ev"); (· walk_at "ev"))
  | ((with_reducible apply ev_le); (· walk_at "ev"); (· walk_at "ev"))
  | ((with_reducible apply ev_gt); (· walk_at "ev"); (· walk_at "ev"))
  | ((with_reducible apply ev_ge); (· walk_at "ev"); (· walk_at "ev"))
  | ((with_reducible apply ev_eqI); (· walk_at "ev"); (· walk_at "ev"))
  | ((with_reducible apply ev_eqS); (· walk_at "ev"); (· walk_at "ev"))
  | ((with_reducible apply ev_eqB); (· walk_at "ev"); (· walk_at "ev"))
  | ((with_reducible apply ev_neI); (· walk_at "ev"); (· walk_at "ev"))
  | ((with_reducible apply ev_neg); (· walk_at "ev"))
  | ((with_reducible apply ev_isN); (· walk_at "ev"))
  | ((with_reducible apply ev_notN); (· walk_at "ev"))
  | ((with_reducible apply et_test); (· walk_at "ev"))
  | ((with_reducible apply et_B); (· walk_at "ev"))
  | ((with_reducible apply et_not); (· walk_at "ev"))
  | ((with_reducible apply ev_tup); (· walk_at "ev"); (· exact Nat.le_of_ble_eq_true rfl))
  | ((with_reducible apply ev_lst); (· walk_at "ev"); (· exact Nat.le_of_ble_eq_true rfl))
  | ((with_reducible apply ev_ix); (· walk_at "ev"); (· walk_at "ev"); (· rfl); (· rfl))
  | ((with_reducible apply ev_mulS); (· walk_at "ev"); (· walk_at "ev"); (· first | exact .inl ⟨by decide, by decide⟩ | exact .inr ⟨by decide, by decide⟩))
  | ((with_reducible apply ev_mulW); (· walk_at "ev"); (· walk_at "ev"); (· walk_at "sd"))
  | ((with_reducible apply ev_mod); (· walk_at "ev"); (· walk_at "ev"); (· walk_at "sd"))
  | ((with_reducible apply ev_div); (· walk_at "ev"); (· walk_at "ev"); (· walk_at "sd"))
  | ((with_reducible apply ev_prop); (· walk_at "ev"); (· walk_at "pr"))
  | ((with_reducible apply ev_chain); (· walk_at "ev"); (· walk_at "ev"); (· walk_at "ev"); (· exact r2_cmp); (· exact r2_cmp))
  | ((with_reducible apply ev_call); (· walk_at "ev"); (· walk_at "rel")))
local macro_rules | `(tactic| walk_at "sd") => `(tactic| first | assumption | decide | omega)
local macro_rules | `(tactic| walk_at "ret") => `(tactic| (apply rr_ret; (· walk_at "ev"); (try rfl)))
local macro_rules | `(tactic| walk_at "asg") => `(tactic| (apply run_asg; (· walk_at "ev"); (· walk_at "tgt")))
local macro_rules | `(tactic| walk_at "tgt") => `(tactic| first
  | with_reducible exact eg_name
  | ((apply eg_tup); (· rfl); (· walk_at "tgt"))
  | with_reducible exact egs_nil
  | ((with_reducible apply egs_cons); (· walk_at "tgt"); (· walk_at "tgt")))
local macro_rules | `(tactic| walk_at "set") => `(tactic| (apply rr_seq; (· walk_at "asg")))
local macro_rules | `(tactic| walk_at "par") => `(tactic| (apply rr_seq; (· apply run_par; walk_at "ev")))
local macro_rules | `(tactic| walk_at "asgE") => `(tactic| (apply run_eq; (· walk_at "asg"); (· rfl)))
local macro_rules | `(tactic| walk_at "parE") => `(tactic| (apply run_eq; (· apply run_par; walk_at "ev"); (· rfl)))
local macro_rules | `(tactic| walk_at "evr") => `(tactic| first | (apply et_is; (· walk_at "ev"); (· rfl)) | (apply ev_is; (· walk_at "ev"); (· rfl)))
local macro_rules | `(tactic| walk_at "drop") => `(tactic| (apply rr_seq; (· apply run_drop; walk_at "ev")))

namespace Sw
open Sd
section
variable {P : Program} {w : World} {K : PySem.W.Frag} {mg : Str → Option Value} {base : Heap} {C : Addr}
/-! ### divisor_and_factor -/
inductive r_gcd : List D → D → Prop where
  | mk (a b : Int) (ha : 0 < a) (hb : 0 < b) (ka : a < 2 ^ 120) (kb : b < 2 ^ 120) : r_gcd [.int a, .int b] (.tup [.int (gcdf a b).1, .int (gcdf a b).2])
theorem ginv_le {a b r f r' f' : Int} (I : GInv a b r f r' f') (h : 0 < r') : f'.natAbs ≤ b.natAbs := by
  have hr : 1 ≤ r.natAbs := by have := I.r0; omega
  have : 1 * f'.natAbs ≤ r.natAbs * f'.natAbs := Nat.mul_le_mul_right _ hr
  have := I.s1
  omega
theorem ok_gcd (d : Df K mg "divisor_and_factor" s_divisor_and_factor) : CallOk P w K mg base "divisor_and_factor" 1 ["one", "other"] (spP C r_gcd) := by
  refine .mk' d (fun f fd F => fn_pure F sc_divisor_and_factor (fun ds d h => by cases h <;> rfl) fun cdv A outer s H E ds d hr h => ?_) (fun _ _ _ _ _ _ us hl => match us, hl with | [_, _], _ => rfl)
  cases h with
  | mk a b ha hb ka kb =>
    refine ⟨_, (pss_cons (ps_par rfl sc_divisor_and_factor.nd (i := 2) (j := 3) rfl rfl (by decide) rfl rfl (pa_cons (pv 0) (pa_cons pe_int pa_nil)) (by rfl))
      (pss_cons (ps_par rfl sc_divisor_and_factor.nd (i := 4) (j := 5) rfl rfl (by decide) rfl rfl (pa_cons (pv 1) (pa_cons pe_int pa_nil)) (by rfl))
      (pss_cons (ps_while PassesOwn.never (pt_cmpR op_gt (pv 4) pe_int (nomark _))
      (pss_cons (ps_set (i := 6) sc_divisor_and_factor.nd rfl (Or.inl rfl) (pe_op op_fdivW (pv 2) (pv 4)))
      (pss_cons (ps_par rfl sc_divisor_and_factor.nd (i := 2) (j := 4) rfl rfl (by decide) rfl rfl (pa_cons (pv 4) (pa_cons (pe_op op_sub (pv 2) (pe_op op_mulW (pv 6) (pv 4))) pa_nil)) (by rfl))
      (pss_one (ps_par rfl sc_divisor_and_factor.nd (i := 3) (j := 5) rfl rfl (by decide) rfl rfl (pa_cons (pv 5) (pa_cons (pe_op op_sub (pv 3) (pe_op op_mulW (pv 6) (pv 5))) pa_nil)) (by rfl))))))
      (pss_one (ps_ret (pe_tup (pa_cons (pv 2) (pa_cons (pv 3) pa_nil)))))))), ?_⟩
    walk_at "par"
    walk_at "par"
    refine rr_loop (Pst := fun e => ∃ x y z, e = [.p (.int a), .p (.int b), .p (.int (gcdf a b).1), .p (.int (gcdf a b).2), x, y, z]) ?loop ?after
    case after =>
      rintro e ⟨x, y, z, rfl⟩
      walk_at "ret"
    case loop =>
      refine (?_ : ∀ (n : Nat) (r f r' f' : Int) (t : Sl), r'.toNat ≤ n → GInv a b r f r' f' → r ≤ max a b → r' ≤ max a b → ∃ m e, WhR C _ _ m [.p (.int a), .p (.int b), .p (.int r), .p (.int f), .p (.int r'), .p (.int f'), t] (.nx e) ∧
        ∃ x y z, e = [.p (.int a), .p (.int b), .p (.int (gcdGo r f r' f').1), .p (.int (gcdGo r f r' f').2), x, y, z]) b.toNat a 1 b 0 .no (Nat.le_refl _) (.start ha hb) (by omega) (by omega)
      intro n
      induction n with
      | zero =>
        intro r f r' f' t hn I _ _
        have h0 : ¬ 0 < r' := by omega
        rw [gcdGo_zero h0]
        exact ⟨0, _, .stop (et_is (by walk_at "ev") (decide_eq_false h0)), _, _, _, rfl⟩
      | succ n ih =>
        intro r f r' f' t hn I hm1 hm2
        by_cases h0 : 0 < r'
        · rw [gcdGo_pos h0]
          have h2 := Int.emod_lt_of_pos r h0
          have h1 := Int.emod_nonneg r (b := r') (by omega)
          have e := emod_eq' r r'
          obtain ⟨m, e1, hw, he⟩ := ih r' f' (r - r / r' * r') (f - r / r' * f') (.p (.int (r / r'))) (by omega) (I.turn h0) hm2 (by omega)
          refine ⟨m + 1, e1, .step (et_is (by walk_at "ev") (decide_eq_true h0)) ?_ hw, he⟩
          have sr : r.natAbs < 2 ^ 120 := by have := I.r0; omega
          have sr' : r'.natAbs < 2 ^ 120 := by omega
          have sq : (r / r').natAbs < 2 ^ 120 := by
            have := Int.ediv_nonneg (Int.le_of_lt I.r0) (Int.le_of_lt h0)
            have := Int.ediv_le_self r' (Int.le_of_lt I.r0)
            omega
          have sf' : f'.natAbs < 2 ^ 120 := by have := ginv_le I h0; omega
          have d1 : CDivW r r' := small_div h0 sr'
          have m1 : CMulW (r / r') r' := small_mul sq sr'
          have m2 : CMulW (r / r') f' := small_mul sq sf'
          refine run_seq (by walk_at "asg") (run_seq (by apply run_par; walk_at "ev") (by walk_at "parE"))
        · rw [gcdGo_zero h0]
          exact ⟨0, _, .stop (et_is (by walk_at "ev") (decide_eq_false h0)), _, _, _, rfl⟩
/-! ### thread_class -/
inductive r_cls : List D → D → Prop where
  | mk (F : Fr) (u v : Int) (h : 0 < F.g) : r_cls [encF F, .tup [.int u, .int v]] (.int (threadClass F (u, v)))
theorem ok_cls (d : Df K mg "thread_class" s_thread_class) (T : Txt K mg C) : CallOk P w K mg base "thread_class" 1 ["frame", "place"] (spP C r_cls) := by
  refine .mk' d (fun f fd F => fn_pure F sc_thread_class (fun ds d h => by cases h <;> rfl) fun cdv A outer s H E ds d hr h => ?_) (fun _ _ _ _ _ _ us hl => match us, hl with | [_, _], _ => rfl)
  cases h with
  | mk F u v h =>
    refine ⟨_, (pss_cons (ps_set (i := 2) sc_thread_class.nd rfl (Or.inl rfl) (pe_op op_mod (pe_op op_sub (pe_ix ix_seq (pv 1) pe_int (fun _ _ => rfl)) (pe_ix ix_seq (pv 1) pe_int (fun _ _ => rfl))) (pe_ix ix_seq (pv 0) pe_int (fun _ _ => rfl))))
      (pss_one (ps_ret (pe_callB (call_min2 rfl) rfl T.b_min (by decide +kernel) (pa_cons (pv 2) (pa_cons (pe_op op_sub (pe_ix ix_seq (pv 0) pe_int (fun _ _ => rfl)) (pv 2)) pa_nil)))))), ?_⟩
    walk_at "set"
    walk_at "ret"
/-! ### steps_to -/
inductive r_steps : List D → D → Prop where
  | mk2 (F : Fr) (S : FrW F) (p1 p2 q1 q2 : Int) : r_steps [encF F, .tup [.int p1, .int p2], .tup [.int q1, .int q2]] (encO (stepsTo F (p1, p2) (q1, q2)))
  | mk3 (F : Fr) (S : FrW F) (p1 p2 q1 q2 : Int) (r : D) : r_steps [encF F, .tup [.int p1, .int p2], .tup [.int q1, .int q2, r]] (encO (stepsTo F (p1, p2) (q1, q2)))
theorem ok_steps (d : Df K mg "steps_to" s_steps_to) : CallOk P w K mg base "steps_to" 1 ["frame", "place", "goal"] (spP C r_steps) := by
  refine .mk' d (fun f fd F => fn_pure F sc_steps_to (fun ds d h => by cases h <;> rfl) fun cdv A outer s H E ds d hr h => ?_) (fun _ _ _ _ _ _ us hl => match us, hl with | [_, _, _], _ => rfl)
  cases h with
  | mk2 F S p1 p2 q1 q2 =>
    refine ⟨_, (pss_cons (ps_asg (pv 0) (pg_tup rfl (pgs_cons (pg_name (i := 3) sc_steps_to.nd rfl (Or.inl rfl)) (pgs_cons (pg_name (i := 4) sc_steps_to.nd rfl (Or.inl rfl)) (pgs_cons (pg_name (i := 5) sc_steps_to.nd rfl (Or.inl rfl)) (pgs_cons (pg_name (i := 6) sc_steps_to.nd rfl (Or.inl rfl)) (pgs_cons (pg_name (i := 7) sc_steps_to.nd rfl (Or.inl rfl)) pgs_nil)))))))
      (pss_cons (ps_set (i := 8) sc_steps_to.nd rfl (Or.inl rfl) (pe_op op_mod (pe_op op_sub (pe_ix ix_seq (pv 2) pe_int (fun _ _ => rfl)) (pe_ix ix_seq (pv 1) pe_int (fun _ _ => rfl))) (pv 3)))
      (pss_cons (ps_set (i := 9) sc_steps_to.nd rfl (Or.inl rfl) (pe_op op_mod (pe_op op_sub (pe_ix ix_seq (pv 2) pe_int (fun _ _ => rfl)) (pe_ix ix_seq (pv 1) pe_int (fun _ _ => rfl))) (pv 4)))
      (pss_cons (ps_if (pt_cmpR op_ne (pe_op op_mod (pe_op op_sub (pv 9) (pv 8)) (pv 5)) pe_int (nomark _)) (pss_one (ps_ret pe_non)) pss_nil)
      (pss_one (ps_ret (pe_op op_add (pv 8) (pe_op op_mulW (pv 3) (pe_op op_mod (pe_op op_mulW (pe_op op_fdivW (pe_op op_sub (pv 9) (pv 8)) (pv 5)) (pv 6)) (pe_op op_fdivW (pv 4) (pv 5))))))))))), ?_⟩
    have hA := S.A0
    have hD := S.D0
    have hg := S.ok.g0
    have hAb := S.Ab
    have hDb := S.Db
    walk_at "set"
    walk_at "set"
    walk_at "set"
    generalize ha : (q1 - p1) % F.A = a
    generalize hb : (q2 - p2) % F.D = b
    have a0 : 0 ≤ a := by rw [← ha]; exact Int.emod_nonneg _ (by omega)
    have a1 : a < F.A := by rw [← ha]; exact Int.emod_lt_of_pos _ hA
    have b0 : 0 ≤ b := by rw [← hb]; exact Int.emod_nonneg _ (by omega)
    have b1 : b < F.D := by rw [← hb]; exact Int.emod_lt_of_pos _ hD
    have gD : F.g ≤ F.D := Int.le_of_dvd hD S.ok.gb
    have sg : F.g.natAbs < 2 ^ 120 := by omega
    have d1 : CDivW (b - a) F.g := small_div hg sg
    have d2 : CDivW F.D F.g := small_div hg sg
    have hdg := S.toFrS.toFrOk.dgpos
    have sq : ((b - a) / F.g).natAbs < 2 ^ 121 := by
      have := Int.natAbs_ediv_le_natAbs (b - a) F.g
      omega
    have sf : F.f.natAbs < 2 ^ 120 := by have := S.ok.sz; omega
    have m1 : CMulW ((b - a) / F.g) F.f := small_mul sq sf
    have sr : ((b - a) / F.g * F.f % (F.D / F.g)).natAbs < 2 ^ 120 := by
      have h1 := Int.emod_nonneg ((b - a) / F.g * F.f) (b := F.D / F.g) (by omega)
      have h2 := Int.emod_lt_of_pos ((b - a) / F.g * F.f) hdg
      have h3 := Int.ediv_le_self F.g (Int.le_of_lt hD)
      omega
    have m2 : CMulW F.A ((b - a) / F.g * F.f % (F.D / F.g)) := small_mul (a := 120) (b := 120) (by omega) sr
    have e : stepsTo F (p1, p2) (q1, q2) = if (b - a) % F.g ≠ 0 then none else some (a + F.A * ((b - a) / F.g * F.f % (F.D / F.g))) := by
      unfold stepsTo
      show (if ((q2 - p2) % F.D - (q1 - p1) % F.A) % F.g ≠ 0 then none else some ((q1 - p1) % F.A + F.A * (((q2 - p2) % F.D - (q1 - p1) % F.A) / F.g * F.f % (F.D / F.g)))) = _
      rw [ha, hb]
    rw [e]
    by_cases c : (b - a) % F.g = 0
    · rw [if_neg (fun z => z c)]
      refine rr_skip (by walk_at "ev") (by rw [decide_eq_true c]; rfl) ?_
      walk_at "ret"
    · rw [if_pos c]
      refine rr_take (by walk_at "ev") (by rw [decide_eq_false c]; rfl) ?_
      walk_at "ret"
  | mk3 F S p1 p2 q1 q2 r =>
    refine ⟨_, (pss_cons (ps_asg (pv 0) (pg_tup rfl (pgs_cons (pg_name (i := 3) sc_steps_to.nd rfl (Or.inl rfl)) (pgs_cons (pg_name (i := 4) sc_steps_to.nd rfl (Or.inl rfl)) (pgs_cons (pg_name (i := 5) sc_steps_to.nd rfl (Or.inl rfl)) (pgs_cons (pg_name (i := 6) sc_steps_to.nd rfl (Or.inl rfl)) (pgs_cons (pg_name (i := 7) sc_steps_to.nd rfl (Or.inl rfl)) pgs_nil)))))))
      (pss_cons (ps_set (i := 8) sc_steps_to.nd rfl (Or.inl rfl) (pe_op op_mod (pe_op op_sub (pe_ix ix_seq (pv 2) pe_int (fun _ _ => rfl)) (pe_ix ix_seq (pv 1) pe_int (fun _ _ => rfl))) (pv 3)))
      (pss_cons (ps_set (i := 9) sc_steps_to.nd rfl (Or.inl rfl) (pe_op op_mod (pe_op op_sub (pe_ix ix_seq (pv 2) pe_int (fun _ _ => rfl)) (pe_ix ix_seq (pv 1) pe_int (fun _ _ => rfl))) (pv 4)))
      (pss_cons (ps_if (pt_cmpR op_ne (pe_op op_mod (pe_op op_sub (pv 9) (pv 8)) (pv 5)) pe_int (nomark _)) (pss_one (ps_ret pe_non)) pss_nil)
      (pss_one (ps_ret (pe_op op_add (pv 8) (pe_op op_mulW (pv 3) (pe_op op_mod (pe_op op_mulW (pe_op op_fdivW (pe_op op_sub (pv 9) (pv 8)) (pv 5)) (pv 6)) (pe_op op_fdivW (pv 4) (pv 5))))))))))), ?_⟩
    have hA := S.A0
    have hD := S.D0
    have hg := S.ok.g0
    have hAb := S.Ab
    have hDb := S.Db
    walk_at "set"
    walk_at "set"
    walk_at "set"
    generalize ha : (q1 - p1) % F.A = a
    generalize hb : (q2 - p2) % F.D = b
    have a0 : 0 ≤ a := by rw [← ha]; exact Int.emod_nonneg _ (by omega)
    have a1 : a < F.A := by rw [← ha]; exact Int.emod_lt_of_pos _ hA
    have b0 : 0 ≤ b := by rw [← hb]; exact Int.emod_nonneg _ (by omega)
    have b1 : b < F.D := by rw [← hb]; exact Int.emod_lt_of_pos _ hD
    have gD : F.g ≤ F.D := Int.le_of_dvd hD S.ok.gb
    have sg : F.g.natAbs < 2 ^ 120 := by omega
    have d1 : CDivW (b - a) F.g := small_div hg sg
    have d2 : CDivW F.D F.g := small_div hg sg
    have hdg := S.toFrS.toFrOk.dgpos
    have sq : ((b - a) / F.g).natAbs < 2 ^ 121 := by
      have := Int.natAbs_ediv_le_natAbs (b - a) F.g
      omega
    have sf : F.f.natAbs < 2 ^ 120 := by have := S.ok.sz; omega
    have m1 : CMulW ((b - a) / F.g) F.f := small_mul sq sf
    have sr : ((b - a) / F.g * F.f % (F.D / F.g)).natAbs < 2 ^ 120 := by
      have h1 := Int.emod_nonneg ((b - a) / F.g * F.f) (b := F.D / F.g) (by omega)
      have h2 := Int.emod_lt_of_pos ((b - a) / F.g * F.f) hdg
      have h3 := Int.ediv_le_self F.g (Int.le_of_lt hD)
      omega
    have m2 : CMulW F.A ((b - a) / F.g * F.f % (F.D / F.g)) := small_mul (a := 120) (b := 120) (by omega) sr
    have e : stepsTo F (p1, p2) (q1, q2) = if (b - a) % F.g ≠ 0 then none else some (a + F.A * ((b - a) / F.g * F.f % (F.D / F.g))) := by
      unfold stepsTo
      show (if ((q2 - p2) % F.D - (q1 - p1) % F.A) % F.g ≠ 0 then none else some ((q1 - p1) % F.A + F.A * (((q2 - p2) % F.D - (q1 - p1) % F.A) / F.g * F.f % (F.D / F.g)))) = _
      rw [ha, hb]
    rw [e]
    by_cases c : (b - a) % F.g = 0
    · rw [if_neg (fun z => z c)]
      refine rr_skip (by walk_at "ev") (by rw [decide_eq_true c]; rfl) ?_
      walk_at "ret"
    · rw [if_pos c]
      refine rr_take (by walk_at "ev") (by rw [decide_eq_false c]; rfl) ?_
      walk_at "ret"
end
end Sw
end
section
open PySem PySem.Spec PyProof.Rows L2 Sw Sd
local macro_rules | `(tactic| walk_at "ev") => `(tactic| first
  | with_reducible exact ev_cI
  | with_reducible exact ev_cS
  | with_reducible exact ev_cB
  | with_reducible exact ev_cN
  | with_reducible exact ea_nil
  | ((with_reducible apply ev_var); rfl)
  | ((with_reducible apply ea_cons); (· walk_at "ev"); (· walk_at "ev"))
  | ((with_reducible apply ev_add); (· walk_at "ev"); (· walk_at "ev"))
  | ((with_reducible apply ev_sub); (· walk_at "ev"); (· walk_at "ev"))
  | ((with_reducible apply ev_min2); (· walk_at "ev"); (· walk_at "ev"))
  | ((with_reducible apply ev_lt); (· walk_at "ev"); (· walk_at "ev"))
  | ((with_reducible apply ev_le); (· walk_at "ev"); (· walk_at "ev"))
  | ((with_reducible apply ev_gt); (· walk_at "ev"); (· walk_at "ev"))
  | ((with_reducible apply ev_ge); (· walk_at "ev"); (· walk_at "ev"))
  | ((with_reducible apply ev_eqI); (· walk_at "ev"); (· walk_at "ev"))
  | ((with_reducible apply ev_eqS); (· walk_at "ev"); (· walk_at "ev"))
  | ((with_reducible apply ev_eqB); (· walk_at "ev"); (· walk_at "ev"))
  | ((with_reducible apply ev_neI); (· walk_at "ev"); (· walk_at "ev"))
  | ((with_reducible apply ev_neg); (· walk_at "ev"))
  | ((with_reducible apply ev_isN); (· walk_at "ev"))
  | ((with_reducible apply ev_notN); (· walk_at "ev"))
  | ((with_reducible apply et_test); (· walk_at "ev"))
  | ((with_reducible apply et_B); (· walk_at "ev"))
  | ((with_reducible apply et_not); (· walk_at "ev"))
  | ((with_reducible apply ev_tup); (· walk_at "ev"); (· exact Nat.le_of_ble_eq_true rfl))
  | ((with_reducible apply ev_lst); (· walk_at "ev"); (· exact Nat.le_of_ble_eq_true rfl))
  | ((with_reducible apply ev_ix); (· walk_at "ev"); (· walk_at "ev"); (· rfl); (· rfl))
  | ((with_reducible apply ev_mulS); (· walk_at "ev"); (· walk_at "ev"); (· first | exact .inl ⟨by decide, by decide⟩ | exact .inr ⟨by decide, by decide⟩))
  | ((with_reducible apply ev_mulW); (· walk_at "ev"); (· walk_at "ev"); (· walk_at "sd"))
  | ((with_reducible apply ev_mod); (· walk_at "ev"); (· walk_at "ev"); (· walk_at "sd"))
  | ((with_reducible apply ev_div); (· walk_at "ev"); (· walk_at "ev"); (· walk_at "sd"))
  | ((with_reducible apply ev_prop); (· walk_at "ev"); (· walk_at "pr"))
  | ((with_reducible apply ev_chain); (· walk_at "ev"); (· walk_at "ev"); (· walk_at "ev"); (· exact r2_cmp); (· exact r2_cmp))
  | ((with_reducible apply ev_call); (· walk_at "ev"); (· walk_at "rel")))
local macro_rules | `(tactic| walk_at "sd") => `(tactic| first | assumption | decide | omega)
local macro_rules | `(tactic| walk_at "ret") => `(tactic| (apply rr_ret; (· walk_at "ev"); (try rfl)))
local macro_rules | `(tactic| walk_at "asg") => `(tactic| (apply run_asg; (· walk_at "ev"); (· walk_at "tgt")))
local macro_rules | `(tactic| walk_at "tgt") => `(tactic| first
  | with_reducible exact eg_name
  | ((apply eg_tup); (· rfl); (· walk_at "tgt"))
  | with_reducible exact egs_nil
  | ((with_reducible apply egs_cons); (· walk_at "tgt"); (· walk_at "tgt")))
local macro_rules | `(tactic| walk_at "set") => `(tactic| (apply rr_seq; (· walk_at "asg")))
local macro_rules | `(tactic| walk_at "par") => `(tactic| (apply rr_seq; (· apply run_par; walk_at "ev")))
local macro_rules | `(tactic| walk_at "asgE") => `(tactic| (apply run_eq; (· walk_at "asg"); (· rfl)))
local macro_rules | `(tactic| walk_at "parE") => `(tactic| (apply run_eq; (· apply run_par; walk_at "ev"); (· rfl)))
local macro_rules | `(tactic| walk_at "evr") => `(tactic| first | (apply et_is; (· walk_at "ev"); (· rfl)) | (apply ev_is; (· walk_at "ev"); (· rfl)))
local macro_rules | `(tactic| walk_at "drop") => `(tactic| (apply rr_seq; (· apply run_drop; walk_at "ev")))

namespace Sw
open Sd
section
variable {P : Program} {w : World} {K : PySem.W.Frag} {mg : Str → Option Value} {base : Heap} {C : Addr}
/-! ### to_mirror -/
def encB (o : Option (Int × Mir)) : D := match o with
  | none => .non
  | some (n, m) => .tup [.int n, encM m]
local macro_rules | `(tactic| walk_at "rel") => `(tactic| first
  | exact r_steps.mk3 _ (by assumption) _ _ _ _ _
  | exact r_steps.mk2 _ (by assumption) _ _ _ _)
inductive r_tom : List D → D → Prop where
  | mk (F : Fr) (S : FrW F) (p1 p2 : Int) : r_tom [encF F, .tup [.int p1, .int p2]] (encB (toMirror F (p1, p2)))
theorem ok_tom (d : Df K mg "to_mirror" s_to_mirror) (c_steps_to : CallOk P w K mg base "steps_to" 1 ["frame", "place", "goal"] (spP C r_steps)) : CallOk P w K mg base "to_mirror" 2 ["frame", "place"] (spP C r_tom) := by
  refine .mk' d (fun f fd F => fn_pure F sc_to_mirror (fun ds d h => by cases h <;> rfl) fun cdv A outer s H E ds d hr h => ?_) (fun _ _ _ _ _ _ us hl => match us, hl with | [_, _], _ => rfl)
  cases h with
  | mk F S p1 p2 =>
    refine ⟨_, (pss_cons (ps_set (i := 2) sc_to_mirror.nd rfl (Or.inl rfl) pe_non)
      (pss_cons (ps_for PassesOwn.never rfl (pi_list (pe_ix ix_seq (pv 0) pe_int (fun _ _ => rfl))) (pg_name (i := 3) sc_to_mirror.nd rfl (Or.inl rfl))
      (pss_cons (ps_set (i := 4) sc_to_mirror.nd rfl (Or.inl rfl) (pe_callC c_steps_to hr (by decide) rfl (pa_cons (pv 0) (pa_cons (pv 1) (pa_cons (pv 3) pa_nil)))))
      (pss_one (ps_if (PW.pt (pw_and (pt_cmp (pc_notN (pv 4))) (pw_and1 (PW.pt (pw_or (pt_cmp (pc_isN (pv 2))) (pw_or1 (pt_cmpR op_lt (pv 4) (pe_ix ix_seq (pv 2) pe_int (fun _ _ => rfl)) (nomark _)))))))) (pss_one (ps_set (i := 2) sc_to_mirror.nd rfl (Or.inl rfl) (pe_tup (pa_cons (pv 4) (pa_cons (pe_ix ix_seq (pv 3) pe_int (fun _ _ => rfl)) pa_nil))))) pss_nil))))
      (pss_one (ps_ret (pv 2))))), ?_⟩
    walk_at "set"
    refine rr_for (xs := F.goals.map encG) (Pst := fun e => ∃ x y, e = [.p (encF F), .p (dP (p1, p2)), .p (encB (toMirror F (p1, p2))), x, y]) (by walk_at "ev") ?loop ?after
    case after =>
      rintro e ⟨x, y, rfl⟩
      walk_at "ret"
    case loop =>
      refine (?_ : ∀ (l : List (P2 × Mir)) (best : Option (Int × Mir)) (x y : Sl), ∃ e, LoopR C _ _ (l.map encG) [.p (encF F), .p (dP (p1, p2)), .p (encB best), x, y] (.nx e) ∧
        ∃ x y, e = [.p (encF F), .p (dP (p1, p2)), .p (encB (toMirrorGo F (p1, p2) best l)), x, y]) F.goals none .no .no
      intro l
      induction l with
      | nil => intro best x y; exact ⟨_, rfl, _, _, rfl⟩
      | cons q l ih =>
        intro best x y
        obtain ⟨e, h1, h2⟩ := ih (better best (stepsTo F (p1, p2) q.1) q.2) (.p (encG q)) (.p (encO (stepsTo F (p1, p2) q.1)))
        refine ⟨e, ⟨_, eg_name, .nx [.p (encF F), .p (dP (p1, p2)), .p (encB (better best (stepsTo F (p1, p2) q.1) q.2)), .p (encG q), .p (encO (stepsTo F (p1, p2) q.1))], ?_, h1⟩, h2⟩
        refine run_seq (e1 := [.p (encF F), .p (dP (p1, p2)), .p (encB best), .p (encG q), .p (encO (stepsTo F (p1, p2) q.1))]) (by walk_at "asgE") ?_
        cases es : stepsTo F (p1, p2) q.1 with
        | none =>
          cases best <;> exact run_ifF (et_andF (by walk_at "evr") rfl) rfl run_next
        | some n =>
          cases best with
          | none => exact run_ifT (et_andT (by walk_at "evr") rfl (et_orT (by walk_at "evr") rfl)) rfl (by walk_at "asgE")
          | some b =>
            obtain ⟨k, m⟩ := b
            by_cases c : n < k
            · have e2 : better (some (k, m)) (some n) q.2 = some (n, q.2) := by simp [better, c]
              rw [e2]
              exact run_ifT (et_andT (by walk_at "evr") rfl (et_orF (by walk_at "evr") rfl (et_is (by walk_at "ev") (decide_eq_true c)))) rfl (by walk_at "asgE")
            · have e2 : better (some (k, m)) (some n) q.2 = some (k, m) := by simp [better, c]
              rw [e2]
              exact run_ifF (et_andT (by walk_at "evr") rfl (et_orF (by walk_at "evr") rfl (et_is (by walk_at "ev") (decide_eq_false c)))) rfl run_next
local macro_rules | `(tactic| walk_at "rel") => `(tactic| exact r_tom.mk _ (by assumption) _ _)
/-! ### from_mirror -/
inductive r_from : List D → D → Prop where
  | mk (F : Fr) (S : FrW F) (p1 p2 n : Int) (m : Mir) (h : fromMirror F (p1, p2) = some (n, m)) : r_from [encF F, .tup [.int p1, .int p2]] (.tup [.int n, encM m])
theorem ok_from (d : Df K mg "from_mirror" s_from_mirror) (c_to_mirror : CallOk P w K mg base "to_mirror" 2 ["frame", "place"] (spP C r_tom)) : CallOk P w K mg base "from_mirror" 3 ["frame", "place"] (spP C r_from) := by
  refine .mk' d (fun f fd F => fn_pure F sc_from_mirror (fun ds d h => by cases h <;> rfl) fun cdv A outer s H E ds d hr h => ?_) (fun _ _ _ _ _ _ us hl => match us, hl with | [_, _], _ => rfl)
  cases h with
  | mk F S p1 p2 n m h =>
    refine ⟨_, (pss_cons (ps_asg (pe_callC c_to_mirror hr (by decide) rfl (pa_cons (pv 0) (pa_cons (pe_tup (pa_cons (pe_op op_add (pe_ix ix_seq (pv 1) pe_int (fun _ _ => rfl)) pe_int) (pa_cons (pe_op op_add (pe_ix ix_seq (pv 1) pe_int (fun _ _ => rfl)) pe_int) pa_nil))) pa_nil))) (pg_tup rfl (pgs_cons (pg_name (i := 2) sc_from_mirror.nd rfl (Or.inl rfl)) (pgs_cons (pg_name (i := 3) sc_from_mirror.nd rfl (Or.inl rfl)) pgs_nil))))
      (pss_one (ps_ret (pe_tup (pa_cons (pe_op op_add (pv 2) pe_int) (pa_cons (pv 3) pa_nil)))))), ?_⟩
    have e : toMirror F (p1 + 1, p2 + 1) = some (n - 1, m) := by
      unfold fromMirror at h
      cases q : toMirror F (p1 + 1, p2 + 1) with
      | none => rw [q] at h; cases h
      | some b =>
        rw [q] at h
        have h := Option.some.inj h
        obtain ⟨b1, b2⟩ := b
        have h1 : b1 + 1 = n := congrArg Prod.fst h
        have h2 : b2 = m := congrArg Prod.snd h
        rw [← h1, ← h2, show b1 + 1 - 1 = b1 by omega]
    refine rr_seq (run_asg (d := .tup [.int (n - 1), encM m]) (ev_is (by walk_at "ev") (by rw [e]; rfl)) (by walk_at "tgt")) ?_
    refine rr_eq (by walk_at "ret") ?_
    rw [show n - 1 + 1 = n by omega]
end
end Sw
end
section
open PySem PySem.Spec PyProof.Rows L2 Sw Sd
local macro_rules | `(tactic| walk_at "ev") => `(tactic| first
  | with_reducible exact ev_cI
  | with_reducible exact ev_cS
  | with_reducible exact ev_cB
  | with_reducible exact ev_cN
  | with_reducible exact ea_nil
  | ((with_reducible apply ev_var); rfl)
  | ((with_reducible apply ea_cons); (· walk_at "ev"); (· walk_at "ev"))
  | ((with_reducible apply ev_add); (· walk_at "ev"); (· walk_at "ev"))
  | ((with_reducible apply ev_sub); (· walk_at "ev"); (· walk_at "ev"))
  | ((with_reducible apply ev_min2); (· walk_at "ev"); (· walk_at "ev"))
  | ((with_reducible apply ev_lt); (· walk_at "ev"); (· walk_at "ev"))
  | ((with_reducible apply ev_le); (· walk_at "ev"); (· walk_at "ev"))
  | ((with_reducible apply ev_gt); (· walk_at "ev"); (· walk_at "ev"))
  | ((with_reducible apply ev_ge); (· walk_at "ev"); (· walk_at "ev"))
  | ((with_reducible apply ev_eqI); (· walk_at "ev"); (· walk_at "ev"))
  | ((with_reducible apply ev_eqS); (· walk_at "ev"); (· walk_at "ev"))
  | ((with_reducible apply ev_eqB); (· walk_at "ev"); (· walk_at "ev"))
  | ((with_reducible apply ev_neI); (· walk_at "ev"); (· walk_at "ev"))
  | ((with_reducible apply ev_neg); (· walk_at "ev"))
  | ((with_reducible apply ev_isN); (· walk_at "ev"))
  | ((with_reducible apply ev_notN); (· walk_at "ev"))
  | ((with_reducible apply et_test); (· walk_at "ev"))
  | ((with_reducible apply et_B); (· walk_at "ev"))
  | ((with_reducible apply et_not); (· walk_at "ev"))
  | ((with_reducible apply ev_tup); (· walk_at "ev"); (· exact Nat.le_of_ble_eq_true rfl))
  | ((with_reducible apply ev_lst); (· walk_at "ev"); (· exact Nat.le_of_ble_eq_true rfl))
  | ((with_reducible apply ev_ix); (· walk_at "ev"); (· walk_at "ev"); (· rfl); (· rfl))
  | ((with_reducible apply ev_mulS); (· walk_at "ev"); (· walk_at "ev"); (· first | exact .inl ⟨by decide, by decide⟩ | exact .inr ⟨by decide, by decide⟩))
  | ((with_reducible apply ev_mulW); (· walk_at "ev"); (· walk_at "ev"); (· walk_at "sd"))
  | ((with_reducible apply ev_mod); (· walk_at "ev"); (· walk_at "ev"); (· walk_at "sd"))
  | ((with_reducible apply ev_div); (· walk_at "ev"); (· walk_at "ev"); (· walk_at "sd"))
  | ((with_reducible apply ev_prop); (· walk_at "ev"); (· walk_at "pr"))
  | ((with_reducible apply ev_chain); (· walk_at "ev"); (· walk_at "ev"); (· walk_at "ev"); (· exact r2_cmp); (· exact r2_cmp))
  | ((with_reducible apply ev_call); (· walk_at "ev"); (· walk_at "rel")))
local macro_rules | `(tactic| walk_at "sd") => `(tactic| first | assumption | decide | omega)
local macro_rules | `(tactic| walk_at "ret") => `(tactic| (apply rr_ret; (· walk_at "ev"); (try rfl)))
local macro_rules | `(tactic| walk_at "asg") => `(tactic| (apply run_asg; (· walk_at "ev"); (· walk_at "tgt")))
local macro_rules | `(tactic| walk_at "tgt") => `(tactic| first
  | with_reducible exact eg_name
  | ((apply eg_tup); (· rfl); (· walk_at "tgt"))
  | with_reducible exact egs_nil
  | ((with_reducible apply egs_cons); (· walk_at "tgt"); (· walk_at "tgt")))
local macro_rules | `(tactic| walk_at "set") => `(tactic| (apply rr_seq; (· walk_at "asg")))
local macro_rules | `(tactic| walk_at "par") => `(tactic| (apply rr_seq; (· apply run_par; walk_at "ev")))
local macro_rules | `(tactic| walk_at "asgE") => `(tactic| (apply run_eq; (· walk_at "asg"); (· rfl)))
local macro_rules | `(tactic| walk_at "parE") => `(tactic| (apply run_eq; (· apply run_par; walk_at "ev"); (· rfl)))
local macro_rules | `(tactic| walk_at "evr") => `(tactic| first | (apply et_is; (· walk_at "ev"); (· rfl)) | (apply ev_is; (· walk_at "ev"); (· rfl)))
local macro_rules | `(tactic| walk_at "drop") => `(tactic| (apply rr_seq; (· apply run_drop; walk_at "ev")))

namespace Sw
open Sd
local macro_rules | `(tactic| walk_at "rel") => `(tactic| first
  | exact r_steps.mk3 _ (by assumption) _ _ _ _ _
  | exact r_steps.mk2 _ (by assumption) _ _ _ _
  | exact r_tom.mk _ (by assumption) _ _
  | exact r_from.mk _ (by assumption) _ _ _ _ (by assumption)
  | exact r_behind.mk _ _ _ _
  | exact r_gcd.mk _ _ (by assumption) (by assumption) (by assumption) (by assumption)
  | exact r_cls.mk _ _ _ (by assumption)
  | exact r_fsq.mk _ _ (by assumption)
  | exact r_fpt.mk _ _ (by assumption)
  | exact r_pts.mk _ _
  | exact r_unf.mk _ _ _ _)

section
variable {P : Program} {w : World} {K : PySem.W.Frag} {mg : Str → Option Value} {base : Heap} {C : Addr}
/-! ### legs -/
def encL (l : Leg) : D := match l with
  | (n, none) => .tup [.int n, .non, .non]
  | (n, some (p, m)) => .tup [.int n, dP p, encM m]
inductive r_legs : List D → D → Prop where
  | mk (F : Fr) (S : FrW F) (p1 p2 : Int) (l : List Leg) (h : legs F (p1, p2) = some l) : r_legs [encF F, .tup [.int p1, .int p2]] (.lst (l.map encL))
theorem wr_rt {c : TT} {t : TS} {n : Nat} {e e1 : Es} {d : D} (h : EvT C c e true e1) (k : RunR C t e1 d) : ∃ e2, WhR C c t n e (.rt d e2) := k.elim fun e2 k => ⟨e2, .rt h k⟩
theorem rr_frL {t : TS} {es : Es} {i : Nat} {ds : List D} {d : D} (hi : es[i]? = some (.oL ds)) (k : RunR C t (es.set i (.p (.lst ds))) d) : RunR C t es d := k.elim fun e2 k => ⟨e2, run_frL hi k⟩
theorem small_len {n : Nat} (h : n ≤ 1000) : n ≤ sizeLine := Nat.le_trans h (by decide)
theorem ok_legs (d : Df K mg "legs" s_legs) (c_steps_to : CallOk P w K mg base "steps_to" 1 ["frame", "place", "goal"] (spP C r_steps)) (c_to_mirror : CallOk P w K mg base "to_mirror" 2 ["frame", "place"] (spP C r_tom))
    (c_from_mirror : CallOk P w K mg base "from_mirror" 3 ["frame", "place"] (spP C r_from)) (c_behind_mirror : CallOk P w K mg base "behind_mirror" 1 ["place", "steps", "kind"] (spP C r_behind)) :
    CallOk P w K mg base "legs" 4 ["frame", "start"] (spP C r_legs) := by
  refine .mk' d (fun f fd F => fn_pure F sc_legs (fun ds d h => by cases h <;> rfl) fun cdv A outer s H E ds d hr h => ?_) (fun _ _ _ _ _ _ us hl => match us, hl with | [_, _], _ => rfl)
  cases h with
  | mk F S p1 p2 l h =>
    refine ⟨_, (pss_cons (ps_set (i := 2) sc_legs.nd rfl (Or.inl rfl) (pe_callC c_to_mirror hr (by decide) rfl (pa_cons (pv 0) (pa_cons (pv 1) pa_nil))))
      (pss_cons (ps_if (pt_cmp (pc_isN (pv 2))) (pss_one (ps_ret (pe_lst (pa_cons (pe_tup (pa_cons (pe_op op_fdivW (pe_op op_mulW (pe_ix ix_seq (pv 0) pe_int (fun _ _ => rfl)) (pe_ix ix_seq (pv 0) pe_int (fun _ _ => rfl))) (pe_ix ix_seq (pv 0) pe_int (fun _ _ => rfl))) (pa_cons pe_non (pa_cons pe_non pa_nil)))) pa_nil)))) pss_nil)
      (pss_cons (ps_set (i := 3) sc_legs.nd rfl (Or.inl rfl) (pe_lst pa_nil))
      (pss_cons (ps_set (i := 4) sc_legs.nd rfl (Or.inl rfl) (pv 1))
      (pss_one (ps_while PassesOwn.never (pt_val pe_bl)
      (pss_cons (ps_asg (pv 2) (pg_tup rfl (pgs_cons (pg_name (i := 5) sc_legs.nd rfl (Or.inl rfl)) (pgs_cons (pg_name (i := 6) sc_legs.nd rfl (Or.inl rfl)) pgs_nil))))
      (pss_cons (ps_set (i := 4) sc_legs.nd rfl (Or.inl rfl) (pe_callC c_behind_mirror hr (by decide) rfl (pa_cons (pv 4) (pa_cons (pv 5) (pa_cons (pe_ix ix_seq (pv 6) pe_int (fun _ _ => rfl)) pa_nil)))))
      (pss_cons (ps_expr (pe_bm PySem.F.plainAttrs_list PySem.F.slot_list_append PySem.F.type_list_append mt_append (pv 3) (pa_cons (pe_tup (pa_cons (pv 5) (pa_cons (pv 4) (pa_cons (pv 6) pa_nil)))) pa_nil)))
      (pss_cons (ps_set (i := 2) sc_legs.nd rfl (Or.inl rfl) (pe_callC c_from_mirror hr (by decide) rfl (pa_cons (pv 0) (pa_cons (pv 4) pa_nil))))
      (pss_cons (ps_set (i := 7) sc_legs.nd rfl (Or.inl rfl) (pe_callC c_steps_to hr (by decide) rfl (pa_cons (pv 0) (pa_cons (pe_tup (pa_cons (pe_op op_add (pe_ix ix_seq (pv 4) pe_int (fun _ _ => rfl)) pe_int) (pa_cons (pe_op op_add (pe_ix ix_seq (pv 4) pe_int (fun _ _ => rfl)) pe_int) pa_nil))) (pa_cons (pv 1) pa_nil)))))
      (pss_one (ps_if (PW.pt (pw_and (pt_cmp (pc_notN (pv 7))) (pw_and1 (pt_cmpR op_lt (pv 7) (pe_ix ix_seq (pv 2) pe_int (fun _ _ => rfl)) (nomark _))))) (pss_one (ps_ret (pe_op op_cat (pv 3) (pe_lst (pa_cons (pe_tup (pa_cons (pv 7) (pa_cons pe_non (pa_cons pe_non pa_nil)))) pa_nil))))) pss_nil))))))))))))), ?_⟩
    have hA := S.A0
    have hD := S.D0
    have hg := S.ok.g0
    have hAb := S.Ab
    have hDb := S.Db
    unfold legs at h
    cases et : toMirror F (p1, p2) with
    | none =>
      rw [et] at h
      have h := Option.some.inj h
      subst h
      refine rr_seq (run_asg (d := .non) (ev_is (by walk_at "ev") (by rw [et]; rfl)) (by walk_at "tgt")) ?_
      have gD : F.g ≤ F.D := Int.le_of_dvd hD S.ok.gb
      have m1 : CMulW F.A F.D := small_mul (a := 120) (b := 120) (by omega) (by omega)
      have d1 : CDivW (F.A * F.D) F.g := small_div (b := 120) hg (by omega)
      refine rr_take (by walk_at "evr") rfl ?_
      walk_at "ret"
    | some b =>
      obtain ⟨n, m⟩ := b
      rw [et] at h
      have h : legsGo F (p1, p2) (F.goals.length + 1) (p1, p2) n m = some l := h
      refine rr_seq (run_asg (d := .tup [.int n, encM m]) (ev_is (by walk_at "ev") (by rw [et]; rfl)) (by walk_at "tgt")) ?_
      refine rr_skip (by walk_at "evr") rfl ?_
      refine rr_seq run_newL ?_
      walk_at "set"
      refine Exists.elim ((?_ : ∀ (k : Nat) (place : P2) (n : Int) (m : Mir) (told : List D) (l : List Leg) (x5 x6 x7 : Sl), legsGo F (p1, p2) k place n m = some l → told.length + k ≤ 900 →
        ∃ e2, WhR C (tB (tC (.bl true))) _ k [.p (encF F), .p (dP (p1, p2)), .p (.tup [.int n, encM m]), .oL told, .p (dP place), x5, x6, x7] (.rt (.lst (told ++ l.map encL)) e2)) (F.goals.length + 1) (p1, p2) n m [] l .no .no .no h (by have := S.gl; show 0 + _ ≤ 900; omega)) fun e2 hw => rr_of (run_wh hw)
      intro k
      induction k with
      | zero => intro place n m told l x5 x6 x7 h _; cases h
      | succ k ih =>
        intro place n m told l x5 x6 x7 h hk
        have ht : told.length < sizeLine := Nat.lt_of_le_of_lt (by omega : told.length ≤ 900) (by decide)
        -- the turn but for its end
        have h' : (match fromMirror F (behind place n m.ly) with
          | none => none
          | some (n1, m1) => match stepsTo F ((behind place n m.ly).1 + 1, (behind place n m.ly).2 + 1) (p1, p2) with
            | none => (legsGo F (p1, p2) k (behind place n m.ly) n1 m1).map ((n, some (behind place n m.ly, m)) :: ·)
            | some b => if b < n1 then some [(n, some (behind place n m.ly, m)), (b, none)]
              else (legsGo F (p1, p2) k (behind place n m.ly) n1 m1).map ((n, some (behind place n m.ly, m)) :: ·)) = some l := h
        cases ef : fromMirror F (behind place n m.ly) with
        | none => rw [ef] at h'; cases h'
        | some b1 =>
          obtain ⟨n1, m1⟩ := b1
          rw [ef] at h'
          have go : ∀ (l' : List Leg) (x7 : Sl), legsGo F (p1, p2) k (behind place n m.ly) n1 m1 = some l' → ∃ e2, WhR C (tB (tC (.bl true))) _ k [.p (encF F), .p (dP (p1, p2)), .p (.tup [.int n1, encM m1]), .oL (told ++ [encL (n, some (behind place n m.ly, m))]), .p (dP (behind place n m.ly)), .p (.int n), .p (encM m), x7]
              (.rt (.lst (told ++ (((n, some (behind place n m.ly, m)) :: l').map encL))) e2) := fun l' x7 hl => by
            have := ih (behind place n m.ly) n1 m1 (told ++ [encL (n, some (behind place n m.ly, m))]) l' (.p (.int n)) (.p (encM m)) x7 hl (by rw [List.length_append, List.length_singleton]; omega)
            rw [List.append_assoc] at this
            exact this
          cases es : stepsTo F ((behind place n m.ly).1 + 1, (behind place n m.ly).2 + 1) (p1, p2) with
          | none =>
            rw [es] at h'
            have h' : (legsGo F (p1, p2) k (behind place n m.ly) n1 m1).map ((n, some (behind place n m.ly, m)) :: ·) = some l := h'
            obtain ⟨l', hl', rfl⟩ := Option.map_eq_some_iff.mp h'
            obtain ⟨e2, hw⟩ := go l' (.p .non) hl'
            refine ⟨e2, .step (et_B ev_cB) ?_ hw⟩
            refine run_seq (by walk_at "asg") (run_seq (by walk_at "asg") (run_seq (by apply run_append; (· walk_at "ev"); (· rfl); (· exact ht)) (run_seq (by walk_at "asg") (run_seq (run_asg (d := .non) (ev_is (by walk_at "ev") (by rw [es]; rfl)) (by walk_at "tgt")) ?_))))
            exact run_ifF (et_andF (by walk_at "evr") rfl) rfl run_next
          | some b =>
            rw [es] at h'
            by_cases c : b < n1
            · have h' : (if b < n1 then some [(n, some (behind place n m.ly, m)), (b, none)] else (legsGo F (p1, p2) k (behind place n m.ly) n1 m1).map ((n, some (behind place n m.ly, m)) :: ·)) = some l := h'
              rw [if_pos c] at h'
              have h' := Option.some.inj h'
              subst h'
              refine wr_rt (et_B ev_cB) ?_
              refine rr_seq (by walk_at "asg") (rr_seq (by walk_at "asg") (rr_seq (by apply run_append; (· walk_at "ev"); (· rfl); (· exact ht)) (rr_seq (by walk_at "asg") (rr_seq (run_asg (d := .int b) (ev_is (by walk_at "ev") (by rw [es]; rfl)) (by walk_at "tgt")) ?_))))
              refine rr_ifT (et_andT (by walk_at "evr") rfl (et_is (by walk_at "ev") (decide_eq_true c))) rfl ?_
              refine rr_frL (i := 3) (ds := told ++ [encL (n, some (behind place n m.ly, m))]) rfl (rr_ret (ev_cat (by walk_at "ev") (by walk_at "ev") (small_len ?_)) ?_)
              · rw [List.length_append]; show told.length + 1 + 1 ≤ 1000; omega
              · rw [List.append_assoc]; rfl
            · have h' : (if b < n1 then some [(n, some (behind place n m.ly, m)), (b, none)] else (legsGo F (p1, p2) k (behind place n m.ly) n1 m1).map ((n, some (behind place n m.ly, m)) :: ·)) = some l := h'
              rw [if_neg c] at h'
              obtain ⟨l', hl', rfl⟩ := Option.map_eq_some_iff.mp h'
              obtain ⟨e2, hw⟩ := go l' (.p (.int b)) hl'
              refine ⟨e2, .step (et_B ev_cB) ?_ hw⟩
              refine run_seq (by walk_at "asg") (run_seq (by walk_at "asg") (run_seq (by apply run_append; (· walk_at "ev"); (· rfl); (· exact ht)) (run_seq (by walk_at "asg") (run_seq (run_asg (d := .int b) (ev_is (by walk_at "ev") (by rw [es]; rfl)) (by walk_at "tgt")) ?_))))
              exact run_ifF (et_andT (by walk_at "evr") rfl (et_is (by walk_at "ev") (decide_eq_false c))) rfl run_next
end
end Sw
end
section
open PySem PySem.Spec PyProof.Rows L2 Sw Sd
local macro_rules | `(tactic| walk_at "ev") => `(tactic| first
  | with_reducible exact ev_cI
  | with_reducible exact ev_cS
  | with_reducible exact ev_cB
  | with_reducible exact ev_cN
  | with_reducible exact ea_nil
  | ((with_reducible apply ev_var); rfl)
  | ((with_reducible apply ea_cons); (· walk_at "ev"); (· walk_at "ev"))
  | ((with_reducible apply ev_add); (· walk_at "ev"); (· walk_at "ev"))
  | ((with_reducible apply ev_sub); (· walk_at "ev"); (· walk_at "ev"))
  | ((with_reducible apply ev_min2); (· walk_at "ev"); (· walk_at "ev"))
  | ((with_reducible apply ev_lt); (· walk_at "ev"); (· walk_at "ev"))
  | ((with_reducible apply ev_le); (· walk_at "ev"); (· walk_at "ev"))
  | ((with_reducible apply ev_gt); (· walk_at "ev"); (· walk_at "ev"))
  | ((with_reducible apply ev_ge); (· walk_at "ev"); (· walk_at "ev"))
  | ((with_reducible apply ev_eqI); (· walk_at "ev"); (· walk_at "ev"))
  | ((with_reducible apply ev_eqS); (· walk_at "ev"); (· walk_at "ev"))
  | ((with_reducible apply ev_eqB); (· walk_at "ev"); (· walk_at "ev"))
  | ((with_reducible apply ev_neI); (· walk_at "ev"); (· walk_at "ev"))
  | ((with_reducible apply ev_neg); (· walk_at "ev"))
  | ((with_reducible apply ev_isN); (· walk_at "ev"))
  | ((with_reducible apply ev_notN); (· walk_at "ev"))
  | ((with_reducible apply et_test); (· walk_at "ev"))
  | ((with_reducible apply et_B); (· walk_at "ev"))
  | ((with_reducible apply et_not); (· walk_at "ev"))
  | ((with_reducible apply ev_tup); (· walk_at "ev"); (· exact Nat.le_of_ble_eq_true rfl))
  | ((with_reducible apply ev_lst); (· walk_at "ev"); (· exact Nat.le_of_ble_eq_true rfl))
  | ((with_reducible apply ev_ix); (· walk_at "ev"); (· walk_at "ev"); (· rfl); (· rfl))
  | ((with_reducible apply ev_mulS); (· walk_at "ev"); (· walk_at "ev"); (· first | exact .inl ⟨by decide, by decide⟩ | exact .inr ⟨by decide, by decide⟩))
  | ((with_reducible apply ev_mulW); (· walk_at "ev"); (· walk_at "ev"); (· walk_at "sd"))
  | ((with_reducible apply ev_mod); (· walk_at "ev"); (· walk_at "ev"); (· walk_at "sd"))
  | ((with_reducible apply ev_div); (· walk_at "ev"); (· walk_at "ev"); (· walk_at "sd"))
  | ((with_reducible apply ev_prop); (· walk_at "ev"); (· walk_at "pr"))
  | ((with_reducible apply ev_chain); (· walk_at "ev"); (· walk_at "ev"); (· walk_at "ev"); (· exact r2_cmp); (· exact r2_cmp))
  | ((with_reducible apply ev_call); (· walk_at "ev"); (· walk_at "rel")))
local macro_rules | `(tactic| walk_at "sd") => `(tactic| first | assumption | decide | omega)
local macro_rules | `(tactic| walk_at "ret") => `(tactic| (apply rr_ret; (· walk_at "ev"); (try rfl)))
local macro_rules | `(tactic| walk_at "asg") => `(tactic| (apply run_asg; (· walk_at "ev"); (· walk_at "tgt")))
local macro_rules | `(tactic| walk_at "tgt") => `(tactic| first
  | with_reducible exact eg_name
  | ((apply eg_tup); (· rfl); (· walk_at "tgt"))
  | with_reducible exact egs_nil
  | ((with_reducible apply egs_cons); (· walk_at "tgt"); (· walk_at "tgt")))
local macro_rules | `(tactic| walk_at "set") => `(tactic| (apply rr_seq; (· walk_at "asg")))
local macro_rules | `(tactic| walk_at "par") => `(tactic| (apply rr_seq; (· apply run_par; walk_at "ev")))
local macro_rules | `(tactic| walk_at "asgE") => `(tactic| (apply run_eq; (· walk_at "asg"); (· rfl)))
local macro_rules | `(tactic| walk_at "parE") => `(tactic| (apply run_eq; (· apply run_par; walk_at "ev"); (· rfl)))
local macro_rules | `(tactic| walk_at "evr") => `(tactic| first | (apply et_is; (· walk_at "ev"); (· rfl)) | (apply ev_is; (· walk_at "ev"); (· rfl)))
local macro_rules | `(tactic| walk_at "drop") => `(tactic| (apply rr_seq; (· apply run_drop; walk_at "ev")))

namespace Sw
open Sd
local macro_rules | `(tactic| walk_at "rel") => `(tactic| first
  | exact r_steps.mk3 _ (by assumption) _ _ _ _ _
  | exact r_steps.mk2 _ (by assumption) _ _ _ _
  | exact r_tom.mk _ (by assumption) _ _
  | exact r_from.mk _ (by assumption) _ _ _ _ (by assumption)
  | exact r_behind.mk _ _ _ _
  | exact r_gcd.mk _ _ (by assumption) (by assumption) (by assumption) (by assumption)
  | exact r_cls.mk _ _ _ (by assumption)
  | exact r_fsq.mk _ _ (by assumption)
  | exact r_fpt.mk _ _ (by assumption)
  | exact r_pts.mk _ _
  | exact r_unf.mk _ _ _ _)

/-! ### boards as data -/
def mirOf (q : (Int × Int) × Str) : Mir := ⟨q.1.1, q.1.2, decide (q.2 = "-")⟩
def lexM (a b : Mir) : Bool := decide (a.x < b.x ∨ (a.x = b.x ∧ a.y ≤ b.y))
def mirs (kvs : List ((Int × Int) × Str)) : List Mir := (kvs.map mirOf).mergeSort lexM
structure KvOk (w h : Int) (kvs : List ((Int × Int) × Str)) : Prop where
  ms : MsOk w h (kvs.map mirOf)
  nd : (kvs.map (·.1)).Nodup
  kd : ∀ q ∈ kvs, q.2 = "-" ∨ q.2 = "|"
  wb : w < 2 ^ 110
  hb : h < 2 ^ 110
  ln : kvs.length ≤ 20
theorem mem_mirs {kvs : List ((Int × Int) × Str)} {m : Mir} : m ∈ mirs kvs ↔ m ∈ kvs.map mirOf := List.mem_mergeSort
theorem KvOk.msOk {w h : Int} {kvs : List ((Int × Int) × Str)} (k : KvOk w h kvs) : MsOk w h (mirs kvs) :=
  ⟨k.ms.w0, k.ms.h0, fun m hm => k.ms.ins m (mem_mirs.mp hm), fun m hm m' hm' => k.ms.uni m (mem_mirs.mp hm) m' (mem_mirs.mp hm')⟩
theorem goals_len : ∀ ms : List Mir, (ms.flatMap goals4).length = 4 * ms.length
  | [] => rfl
  | m :: ms => by rw [List.flatMap_cons, List.length_append, goals_len ms, List.length_cons]; show 4 + _ = _; omega
theorem mirs_len (kvs : List ((Int × Int) × Str)) : (mirs kvs).length = kvs.length := by unfold mirs; rw [List.length_mergeSort, List.length_map]
theorem KvOk.frW {w h : Int} {kvs : List ((Int × Int) × Str)} (k : KvOk w h kvs) : FrW (frameOf w h (mirs kvs)) :=
  { frameOf_ok k.msOk with
    Ab := (by have := k.wb; show 4 * w < _; omega)
    Db := (by have := k.hb; show 4 * h < _; omega)
    gl := (by show ((mirs kvs).flatMap goals4).length ≤ 100; rw [goals_len, mirs_len]; have := k.ln; omega) }
inductive r_w : List D → D → Prop where
  | mk (w h : Int) (kvs : List ((Int × Int) × Str)) : r_w [.brd w h kvs] (.int w)
inductive r_h : List D → D → Prop where
  | mk (w h : Int) (kvs : List ((Int × Int) × Str)) : r_h [.brd w h kvs] (.int h)
inductive r_mirs : List D → D → Prop where
  | mk (w h : Int) (kvs : List ((Int × Int) × Str)) (k : KvOk w h kvs) : r_mirs [.brd w h kvs] (.lst ((mirs kvs).map encM))
inductive r_frm : List D → D → Prop where
  | mk (w h : Int) (kvs : List ((Int × Int) × Str)) (k : KvOk w h kvs) : r_frm [.brd w h kvs] (encF (frameOf w h (mirs kvs)))
local macro_rules | `(tactic| walk_at "pr") => `(tactic| first
  | exact r_w.mk _ _ _
  | exact r_h.mk _ _ _
  | exact r_mirs.mk _ _ _ (by assumption))
section
variable {P : Program} {w : World} {K : PySem.W.Frag} {mg : Str → Option Value} {base : Heap} {C : Addr}
/-! ### frame_of -/
theorem ok_frm (d : Df K mg "frame_of" s_frame_of) (T : Txt K mg C) (c_width : PropOk P w K mg base C "width" 1 (spP C r_w)) (c_height : PropOk P w K mg base C "height" 1 (spP C r_h)) (c_mirrors : PropOk P w K mg base C "mirrors" 1 (spP C r_mirs))
    (c_divisor_and_factor : CallOk P w K mg base "divisor_and_factor" 1 ["one", "other"] (spP C r_gcd)) : CallOk P w K mg base "frame_of" 3 ["board"] (spP C r_frm) := by
  refine .mk' d (fun f fd F => fn_pure F sc_frame_of (fun ds d h => by cases h <;> rfl) fun cdv A outer s H E ds d hr h => ?_) (fun _ _ _ _ _ _ us hl => match us, hl with | [_], _ => rfl)
  cases h with
  | mk w0 h0 kvs k =>
    refine ⟨_, (pss_cons (ps_par rfl sc_frame_of.nd (i := 1) (j := 2) rfl rfl (by decide) rfl rfl (pa_cons (pe_op op_mul pe_int (pe_propC T c_width hr (pv 0) (by decide) rfl)) (pa_cons (pe_op op_mul pe_int (pe_propC T c_height hr (pv 0) (by decide) rfl)) pa_nil)) (by rfl))
      (pss_cons (ps_asg (pe_callC c_divisor_and_factor hr (by decide) rfl (pa_cons (pv 1) (pa_cons (pv 2) pa_nil))) (pg_tup rfl (pgs_cons (pg_name (i := 3) sc_frame_of.nd rfl (Or.inl rfl)) (pgs_cons (pg_name (i := 4) sc_frame_of.nd rfl (Or.inl rfl)) pgs_nil))))
      (pss_cons (ps_set (i := 5) sc_frame_of.nd rfl (Or.inl rfl) (pe_lst pa_nil))
      (pss_cons (ps_for PassesOwn.never rfl (pi_list (pe_propC T c_mirrors hr (pv 0) (by decide) rfl)) (pg_name (i := 6) sc_frame_of.nd rfl (Or.inl rfl))
      (pss_cons (ps_asg (pe_slice sl_tup (pv 6) po_none (po_some pe_int)) (pg_tup rfl (pgs_cons (pg_name (i := 7) sc_frame_of.nd rfl (Or.inl rfl)) (pgs_cons (pg_name (i := 8) sc_frame_of.nd rfl (Or.inl rfl)) pgs_nil))))
      (pss_one (ps_expr (pe_bm PySem.F.plainAttrs_list PySem.F.slot_list_extend PySem.F.type_list_extend mt_extend (pv 5) (pa_cons (pe_lst (pa_cons (pe_tup (pa_cons (pv 7) (pa_cons (pv 8) (pa_cons (pv 6) pa_nil)))) (pa_cons (pe_tup (pa_cons (pv 7) (pa_cons (pe_un un_neg (pv 8)) (pa_cons (pv 6) pa_nil)))) (pa_cons (pe_tup (pa_cons (pe_un un_neg (pv 7)) (pa_cons (pv 8) (pa_cons (pv 6) pa_nil)))) (pa_cons (pe_tup (pa_cons (pe_un un_neg (pv 7)) (pa_cons (pe_un un_neg (pv 8)) (pa_cons (pv 6) pa_nil)))) pa_nil))))) pa_nil))))))
      (pss_one (ps_ret (pe_tup (pa_cons (pv 1) (pa_cons (pv 2) (pa_cons (pv 3) (pa_cons (pv 4) (pa_cons (pv 5) pa_nil)))))))))))), ?_⟩
    have S := k.frW
    have hA := S.A0
    have hD := S.D0
    have hAb := S.Ab
    have hDb := S.Db
    change 0 < 4 * w0 at hA
    change 0 < 4 * h0 at hD
    change 4 * w0 < _ at hAb
    change 4 * h0 < _ at hDb
    refine rr_seq (by apply run_par; exact ea_cons (ev_mulS ev_cI (ev_prop (ev_var rfl) (r_w.mk w0 h0 kvs)) (.inl ⟨by decide, by decide⟩)) (ea_cons (ev_mulS ev_cI (ev_prop (ev_var rfl) (r_h.mk w0 h0 kvs)) (.inl ⟨by decide, by decide⟩)) ea_nil)) ?_
    walk_at "set"
    refine rr_seq run_newL ?_
    refine rr_for (xs := (mirs kvs).map encM) (Pst := fun e => ∃ x y z, e = [.p (.brd w0 h0 kvs), .p (.int (4 * w0)), .p (.int (4 * h0)), .p (.int (gcdf (4 * w0) (4 * h0)).1), .p (.int (gcdf (4 * w0) (4 * h0)).2), .oL (((mirs kvs).flatMap goals4).map encG), x, y, z]) (ev_prop (ev_var rfl) (r_mirs.mk w0 h0 kvs k)) ?loop ?after
    case after =>
      rintro e ⟨x, y, z, rfl⟩
      refine rr_frL (i := 5) (ds := ((mirs kvs).flatMap goals4).map encG) rfl ?_
      walk_at "ret"
    case loop =>
      have hl := k.ln
      rw [← mirs_len] at hl
      refine (?_ : ∀ (l : List Mir) (ds : List D) (x y z : Sl), ds.length + 4 * l.length ≤ 100 → ∃ e, LoopR C _ _ (l.map encM) [.p (.brd w0 h0 kvs), .p (.int (4 * w0)), .p (.int (4 * h0)), .p (.int (gcdf (4 * w0) (4 * h0)).1), .p (.int (gcdf (4 * w0) (4 * h0)).2), .oL ds, x, y, z] (.nx e) ∧
        ∃ x y z, e = [.p (.brd w0 h0 kvs), .p (.int (4 * w0)), .p (.int (4 * h0)), .p (.int (gcdf (4 * w0) (4 * h0)).1), .p (.int (gcdf (4 * w0) (4 * h0)).2), .oL (ds ++ (l.flatMap goals4).map encG), x, y, z]) (mirs kvs) [] .no .no .no (by show 0 + _ ≤ 100; omega)
      intro l
      induction l with
      | nil => intro ds x y z _; exact ⟨_, rfl, _, _, _, by rw [List.flatMap_nil, List.map_nil, List.append_nil]⟩
      | cons m l ih =>
        intro ds x y z hd
        rw [List.length_cons] at hd
        obtain ⟨e, h1, h2⟩ := ih (ds ++ (goals4 m).map encG) (.p (encM m)) (.p (.int m.x)) (.p (.int m.y)) (by rw [List.length_append, List.length_map]; show _ + 4 + _ ≤ 100; omega)
        rw [List.append_assoc] at h2
        rw [show (goals4 m).map encG ++ (l.flatMap goals4).map encG = ((m :: l).flatMap goals4).map encG by rw [List.flatMap_cons, List.map_append]] at h2
        refine ⟨e, ⟨_, eg_name, .nx [.p (.brd w0 h0 kvs), .p (.int (4 * w0)), .p (.int (4 * h0)), .p (.int (gcdf (4 * w0) (4 * h0)).1), .p (.int (gcdf (4 * w0) (4 * h0)).2), .oL (ds ++ (goals4 m).map encG), .p (encM m), .p (.int m.x), .p (.int m.y)], ?_, h1⟩, h2⟩
        refine run_seq (run_asg (d := .tup [.int m.x, .int m.y]) (ev_is (ev_slT (n := 2) (ev_var rfl) (Nat.lt_of_sub_eq_succ rfl)) rfl) (by walk_at "tgt")) ?_
        refine run_eq (run_extend (xs := (goals4 m).map encG) (ev_is (d := .lst [.tup [.int m.x, .int m.y, encM m], .tup [.int m.x, .int (-m.y), encM m], .tup [.int (-m.x), .int m.y, encM m], .tup [.int (-m.x), .int (-m.y), encM m]]) (by walk_at "ev") rfl) rfl ?_) rfl
        rw [List.length_map]
        exact small_len (by show _ + 4 ≤ 1000; omega)
end
end Sw
end
section
open PySem PySem.Spec PyProof.Rows L2 Sw Sd
local macro_rules | `(tactic| walk_at "ev") => `(tactic| first
  | with_reducible exact ev_cI
  | with_reducible exact ev_cS
  | with_reducible exact ev_cB
  | with_reducible exact ev_cN
  | with_reducible exact ea_nil
  | ((with_reducible apply ev_var); rfl)
  | ((with_reducible apply ea_cons); (· walk_at "ev"); (· walk_at "ev"))
  | ((with_reducible apply ev_add); (· walk_at "ev"); (· walk_at "ev"))
  | ((with_reducible apply ev_sub); (· walk_at "ev"); (· walk_at "ev"))
  | ((with_reducible apply ev_min2); (· walk_at "ev"); (· walk_at "ev"))
  | ((with_reducible apply ev_lt); (· walk_at "ev"); (· walk_at "ev"))
  | ((with_reducible apply ev_le); (· walk_at "ev"); (· walk_at "ev"))
  | ((with_reducible apply ev_gt); (· walk_at "ev"); (· walk_at "ev"))
  | ((with_reducible apply ev_ge); (· walk_at "ev"); (· walk_at "ev"))
  | ((with_reducible apply ev_eqI); (· walk_at "ev"); (· walk_at "ev"))
  | ((with_reducible apply ev_eqS); (· walk_at "ev"); (· walk_at "ev"))
  | ((with_reducible apply ev_eqB); (· walk_at "ev"); (· walk_at "ev"))
  | ((with_reducible apply ev_neI); (· walk_at "ev"); (· walk_at "ev"))
  | ((with_reducible apply ev_neg); (· walk_at "ev"))
  | ((with_reducible apply ev_isN); (· walk_at "ev"))
  | ((with_reducible apply ev_notN); (· walk_at "ev"))
  | ((with_reducible apply et_test); (· walk_at "ev"))
  | ((with_reducible apply et_B); (· walk_at "ev"))
  | ((with_reducible apply et_not); (· walk_at "ev"))
  | ((with_reducible apply ev_tup); (· walk_at "ev"); (· exact Nat.le_of_ble_eq_true rfl))
  | ((with_reducible apply ev_lst); (· walk_at "ev"); (· exact Nat.le_of_ble_eq_true rfl))
  | ((with_reducible apply ev_ix); (· walk_at "ev"); (· walk_at "ev"); (· rfl); (· rfl))
  | ((with_reducible apply ev_mulS); (· walk_at "ev"); (· walk_at "ev"); (· first | exact .inl ⟨by decide, by decide⟩ | exact .inr ⟨by decide, by decide⟩))
  | ((with_reducible apply ev_mulW); (· walk_at "ev"); (· walk_at "ev"); (· walk_at "sd"))
  | ((with_reducible apply ev_mod); (· walk_at "ev"); (· walk_at "ev"); (· walk_at "sd"))
  | ((with_reducible apply ev_div); (· walk_at "ev"); (· walk_at "ev"); (· walk_at "sd"))
  | ((with_reducible apply ev_prop); (· walk_at "ev"); (· walk_at "pr"))
  | ((with_reducible apply ev_chain); (· walk_at "ev"); (· walk_at "ev"); (· walk_at "ev"); (· exact r2_cmp); (· exact r2_cmp))
  | ((with_reducible apply ev_call); (· walk_at "ev"); (· walk_at "rel")))
local macro_rules | `(tactic| walk_at "sd") => `(tactic| first | assumption | decide | omega)
local macro_rules | `(tactic| walk_at "ret") => `(tactic| (apply rr_ret; (· walk_at "ev"); (try rfl)))
local macro_rules | `(tactic| walk_at "asg") => `(tactic| (apply run_asg; (· walk_at "ev"); (· walk_at "tgt")))
local macro_rules | `(tactic| walk_at "tgt") => `(tactic| first
  | with_reducible exact eg_name
  | ((apply eg_tup); (· rfl); (· walk_at "tgt"))
  | with_reducible exact egs_nil
  | ((with_reducible apply egs_cons); (· walk_at "tgt"); (· walk_at "tgt")))
local macro_rules | `(tactic| walk_at "set") => `(tactic| (apply rr_seq; (· walk_at "asg")))
local macro_rules | `(tactic| walk_at "par") => `(tactic| (apply rr_seq; (· apply run_par; walk_at "ev")))
local macro_rules | `(tactic| walk_at "asgE") => `(tactic| (apply run_eq; (· walk_at "asg"); (· rfl)))
local macro_rules | `(tactic| walk_at "parE") => `(tactic| (apply run_eq; (· apply run_par; walk_at "ev"); (· rfl)))
local macro_rules | `(tactic| walk_at "evr") => `(tactic| first | (apply et_is; (· walk_at "ev"); (· rfl)) | (apply ev_is; (· walk_at "ev"); (· rfl)))
local macro_rules | `(tactic| walk_at "drop") => `(tactic| (apply rr_seq; (· apply run_drop; walk_at "ev")))

namespace Sw
open Sd
inductive r_loc : List D → D → Prop where
  | mk (w h : Int) (kvs : List ((Int × Int) × Str)) (p : P2) (hw : 1 ≤ w) (hh : 1 ≤ h) : r_loc [.brd w h kvs, dP p] (.tup [dP (located w h p).1, dP (located w h p).2])
inductive r_csq : List D → D → Prop where
  | mk (w h : Int) (kvs : List ((Int × Int) × Str)) (s : P2) (o : OnB w h s) : r_csq [.brd w h kvs, dP s] .non
inductive r_cway : List D → D → Prop where
  | mk (w h : Int) (kvs : List ((Int × Int) × Str)) (s p : P2) (o : OnB w h s) (k : IsPt s p) : r_cway [.brd w h kvs, dP s, dP p] .non
inductive r_nxm : List D → D → Prop where
  | mk (w h : Int) (s p : P2) (k : KvOk w h []) (o : OnB w h s) (k : IsPt s p) : r_nxm [.brd w h [], dP s, dP p] .non
def strNum (b : Bool) (x : Leg) : Int := match x.2 with
  | none => x.1
  | some _ => if b then x.1 + 1 else x.1
def strPl (x : Leg) : D := match x.2 with
  | none => .non
  | some (_, m) => .tup [.int m.x, .int m.y]
def strD (b : Bool) (x : Leg) : D := .tup [.int (strNum b x), strPl x]
def strGo : Bool → List Leg → List D
  | _, [] => []
  | b, x :: l => strD b x :: strGo false l
def numGo : Bool → List Leg → List Int
  | _, [] => []
  | b, x :: l => strNum b x :: numGo false l
inductive r_str : List D → D → Prop where
  | mk (w h : Int) (kvs : List ((Int × Int) × Str)) (s p : P2) (l : List Leg) (k : KvOk w h kvs) (o : OnB w h s) (kp : IsPt s p) (e : legs (frameOf w h (mirs kvs)) (unf s p) = some l) : r_str [.brd w h kvs, dP s, dP p] (.lst (strGo true l))
inductive r_flen : List D → D → Prop where
  | mk (w h : Int) (kvs : List ((Int × Int) × Str)) (s : P2) (n : Int) (k : KvOk w h kvs) (o : OnB w h s) (e : farLen (frameOf w h (mirs kvs)) (unf s (pts s).1) = some n) : r_flen [.brd w h kvs, dP s] (.int n)
local macro_rules | `(tactic| walk_at "rel") => `(tactic| first
  | exact r_loc.mk _ _ _ _ (by assumption) (by assumption)
  | exact r_csq.mk _ _ _ _ (by assumption)
  | exact r_cway.mk _ _ _ _ _ (by assumption) (by assumption)
  | exact r_frm.mk _ _ _ (by assumption)
  | exact r_legs.mk _ (by assumption) _ _ _ (by assumption)
  | exact r_str.mk _ _ _ _ _ _ (by assumption) (by assumption) (by assumption) (by assumption)
  | exact r_flen.mk _ _ _ _ _ (by assumption) (by assumption) (by assumption)
  | exact r_steps.mk3 _ (by assumption) _ _ _ _ _
  | exact r_steps.mk2 _ (by assumption) _ _ _ _
  | exact r_tom.mk _ (by assumption) _ _
  | exact r_from.mk _ (by assumption) _ _ _ _ (by assumption)
  | exact r_behind.mk _ _ _ _
  | exact r_gcd.mk _ _ (by assumption) (by assumption) (by assumption) (by assumption)
  | exact r_cls.mk _ _ _ (by assumption)
  | exact r_fsq.mk _ _ (by assumption)
  | exact r_fpt.mk _ _ (by assumption)
  | exact r_pts.mk _ _
  | exact r_unf.mk _ _ _ _)
local macro_rules | `(tactic| walk_at "pr") => `(tactic| first
  | exact r_w.mk _ _ _
  | exact r_h.mk _ _ _
  | exact r_mirs.mk _ _ _ (by assumption))

section
variable {P : Program} {w : World} {K : PySem.W.Frag} {mg : Str → Option Value} {base : Heap} {C : Addr}
theorem mirs_nil : mirs [] = [] := by simp [mirs]
theorem legs_len {F : Fr} (S : FrW F) {p : P2} {l : List Leg} (e : legs F p = some l) : l.length ≤ 102 := by
  have := S.gl
  cases t : toMirror F p with
  | none =>
    unfold legs at e
    rw [t] at e
    have e := Option.some.inj e
    subst e
    show 1 ≤ 102
    omega
  | some b =>
    obtain ⟨n, m⟩ := b
    obtain ⟨l', e', _, h⟩ := legs_ok S.toFrS t
    rw [e] at e'
    cases e'
    omega
theorem num_false : ∀ l : List Leg, numGo false l = l.map (·.1)
  | [] => rfl
  | (n, none) :: l => by show n :: numGo false l = n :: _; rw [num_false l]
  | (n, some _) :: l => by show n :: numGo false l = n :: _; rw [num_false l]
theorem num_sum {F : Fr} (S : FrW F) {p : P2} {l : List Leg} (e : legs F p = some l) : (numGo true l).sum = lenOf l := by
  cases t : toMirror F p with
  | none =>
    unfold legs at e
    rw [t] at e
    have e := Option.some.inj e
    subst e
    simp [numGo, strNum, lenOf, sumL]
  | some b =>
    obtain ⟨n, m⟩ := b
    obtain ⟨l', e', h, _⟩ := legs_ok S.toFrS t
    rw [e] at e'
    cases e'
    have h2 := h.two0
    cases h with
    | step h1 hf h2' =>
      unfold lenOf
      rw [if_pos h2]
      show _ + 1 + (numGo false _).sum = _
      rw [num_false]
      simp only [sumL, List.map_cons, List.sum_cons]
      omega
theorem strD_fl (b : Bool) (x : Leg) : D.fl 3 (strD b x) = true := by
  obtain ⟨n, o⟩ := x
  cases o with
  | none => simp [strD, strPl, D.fl, D.flL]
  | some q => obtain ⟨p, m⟩ := q; simp [strD, strPl, D.fl, D.flL]
/-! ### located -/
theorem ok_loc (d : Df K mg "located" s_located) (T : Txt K mg C) (c_width : PropOk P w K mg base C "width" 1 (spP C r_w)) (c_height : PropOk P w K mg base C "height" 1 (spP C r_h))
    (c_folded_square : CallOk P w K mg base "folded_square" 1 ["size", "far"] (spP C r_fsq)) (c_folded_point : CallOk P w K mg base "folded_point" 1 ["size", "far"] (spP C r_fpt)) : CallOk P w K mg base "located" 3 ["board", "place"] (spP C r_loc) := by
  refine .mk' d (fun f fd F => fn_pure F sc_located (fun ds d h => by cases h <;> rfl) fun cdv A outer s H E ds d hr h => ?_) (fun _ _ _ _ _ _ us hl => match us, hl with | [_, _], _ => rfl)
  cases h with
  | mk w0 h0 kvs p hw hh =>
    refine ⟨_, (pss_cons (ps_set (i := 2) sc_located.nd rfl (Or.inl rfl) (pe_tup (pa_cons (pe_callC c_folded_square hr (by decide) rfl (pa_cons (pe_propC T c_width hr (pv 0) (by decide) rfl) (pa_cons (pe_ix ix_seq (pv 1) pe_int (fun _ _ => rfl)) pa_nil))) (pa_cons (pe_callC c_folded_square hr (by decide) rfl (pa_cons (pe_propC T c_height hr (pv 0) (by decide) rfl) (pa_cons (pe_ix ix_seq (pv 1) pe_int (fun _ _ => rfl)) pa_nil))) pa_nil))))
      (pss_one (ps_ret (pe_tup (pa_cons (pv 2) (pa_cons (pe_tup (pa_cons (pe_callC c_folded_point hr (by decide) rfl (pa_cons (pe_propC T c_width hr (pv 0) (by decide) rfl) (pa_cons (pe_ix ix_seq (pv 1) pe_int (fun _ _ => rfl)) pa_nil))) (pa_cons (pe_callC c_folded_point hr (by decide) rfl (pa_cons (pe_propC T c_height hr (pv 0) (by decide) rfl) (pa_cons (pe_ix ix_seq (pv 1) pe_int (fun _ _ => rfl)) pa_nil))) pa_nil))) pa_nil)))))), ?_⟩
    walk_at "set"
    refine rr_eq (by walk_at "ret") ?_
    rfl
/-! ### check_square, check_way -/
theorem ok_csq (d : Df K mg "check_square" s_check_square) (T : Txt K mg C) (c_width : PropOk P w K mg base C "width" 1 (spP C r_w)) (c_height : PropOk P w K mg base C "height" 1 (spP C r_h)) :
    CallOk P w K mg base "check_square" 3 ["board", "square"] (spP C r_csq) := by
  refine .mk' d (fun f fd F => fn_pureN F sc_check_square (fun ds d h => by cases h <;> rfl) (fun ds d h => by cases h; rfl) fun cdv A outer s H E ds hr h => ?_) (fun _ _ _ _ _ _ us hl => match us, hl with | [_, _], _ => rfl)
  cases h with
  | mk w0 h0 kvs s o =>
    refine ⟨_, (pss_cons (ps_asg (pv 1) (pg_tup rfl (pgs_cons (pg_name (i := 2) sc_check_square.nd rfl (Or.inl rfl)) (pgs_cons (pg_name (i := 3) sc_check_square.nd rfl (Or.inl rfl)) pgs_nil))))
      (pss_one (ps_if (pt_not (PW.pt (pw_and (pt_chain op_le op_lt pe_int (pv 2) (pe_op op_mul pe_int (pe_propC T c_width hr (pv 0) (by decide) rfl))) (pw_and1 (pt_chain op_le op_lt pe_int (pv 3) (pe_op op_mul pe_int (pe_propC T c_height hr (pv 0) (by decide) rfl))))))) pss_never pss_nil))), ?_⟩
    obtain ⟨o1, o2, o3, o4⟩ := o
    obtain ⟨i, j⟩ := s
    refine rn_seq (by walk_at "asg") ?_
    refine rn_skip (et_not (et_andT (by walk_at "ev") (by simp only [Bool.and_eq_true, decide_eq_true_eq]; exact ⟨o1, o2⟩) (by walk_at "ev"))) ?_
    simp only [Bool.not_eq_false', Bool.and_eq_true, decide_eq_true_eq]
    exact ⟨o3, o4⟩
theorem inP_pts {s p : P2} (k : IsPt s p) : inP p [(pts s).1, (pts s).2] = true := by
  unfold inP
  rcases k with e | e <;> subst e <;> simp
theorem ok_cway (d : Df K mg "check_way" s_check_way) (T : Txt K mg C) (c_check_square : CallOk P w K mg base "check_square" 3 ["board", "square"] (spP C r_csq)) (c_points_of : CallOk P w K mg base "points_of" 1 ["square"] (spP C r_pts)) :
    CallOk P w K mg base "check_way" 4 ["board", "square", "point"] (spP C r_cway) := by
  refine .mk' d (fun f fd F => fn_pureN F sc_check_way (fun ds d h => by cases h <;> rfl) (fun ds d h => by cases h; rfl) fun cdv A outer s H E ds hr h => ?_) (fun _ _ _ _ _ _ us hl => match us, hl with | [_, _, _], _ => rfl)
  cases h with
  | mk w0 h0 kvs s p o k =>
    refine ⟨_, (pss_cons (ps_expr (pe_callC c_check_square hr (by decide) rfl (pa_cons (pv 0) (pa_cons (pv 1) pa_nil))))
      (pss_one (ps_if (pt_cmpR (op_notInD (hu65 hr)) (pv 2) (pe_callC c_points_of hr (by decide) rfl (pa_cons (pv 1) pa_nil)) (by rfl)) pss_never pss_nil))), ?_⟩
    refine rn_seq (by apply run_drop; walk_at "ev") ?_
    exact rn_skip (et_test (ev_notinP (p := p) (l := [(pts s).1, (pts s).2]) (ev_var rfl) (ev_call (ea_cons (ev_var rfl) ea_nil) (r_pts.mk s.1 s.2)))) (by rw [inP_pts k]; rfl)
/-! ### next_mirror, of bare boards -/
theorem ok_nxm (d : Df K mg "next_mirror" s_next_mirror) (T : Txt K mg C) (c_check_way : CallOk P w K mg base "check_way" 4 ["board", "square", "point"] (spP C r_cway)) (c_to_mirror : CallOk P w K mg base "to_mirror" 2 ["frame", "place"] (spP C r_tom))
    (c_frame_of : CallOk P w K mg base "frame_of" 3 ["board"] (spP C r_frm)) (c_unfolded : CallOk P w K mg base "unfolded" 1 ["square", "point"] (spP C r_unf)) : CallOk P w K mg base "next_mirror" 5 ["board", "square", "point"] (spP C r_nxm) := by
  refine .mk' d (fun f fd F => fn_pure F sc_next_mirror (fun ds d h => by cases h <;> rfl) fun cdv A outer s H E ds d hr h => ?_) (fun _ _ _ _ _ _ us hl => match us, hl with | [_, _, _], _ => rfl)
  cases h with
  | mk w0 h0 s p k o kp =>
    refine ⟨_, (pss_cons (ps_expr (pe_callC c_check_way hr (by decide) rfl (pa_cons (pv 0) (pa_cons (pv 1) (pa_cons (pv 2) pa_nil)))))
      (pss_cons (ps_set (i := 3) sc_next_mirror.nd rfl (Or.inl rfl) (pe_callC c_to_mirror hr (by decide) rfl (pa_cons (pe_callC c_frame_of hr (by decide) rfl (pa_cons (pv 0) pa_nil)) (pa_cons (pe_callC c_unfolded hr (by decide) rfl (pa_cons (pv 1) (pa_cons (pv 2) pa_nil))) pa_nil))))
      (pss_cons (ps_if (pt_cmp (pc_isN (pv 3))) (pss_one (ps_ret pe_non)) pss_nil)
      (pss_one (ps_ret (pe_tup (pa_cons (pe_op op_add (pe_ix ix_seq (pv 3) pe_int (fun _ _ => rfl)) pe_int) (pa_cons (pe_slice sl_tup (pe_ix ix_seq (pv 3) pe_int (fun _ _ => rfl)) po_none (po_some pe_int)) pa_nil)))))))), ?_⟩
    have S := k.frW
    walk_at "drop"
    refine rr_seq (run_asg (d := .non) (ev_is (by walk_at "ev") (by rw [mirs_nil]; rfl)) (by walk_at "tgt")) ?_
    refine rr_take (by walk_at "evr") rfl ?_
    walk_at "ret"
/-! ### stretches -/
theorem ok_str (d : Df K mg "stretches" s_stretches) (T : Txt K mg C) (c_check_way : CallOk P w K mg base "check_way" 4 ["board", "square", "point"] (spP C r_cway)) (c_legs : CallOk P w K mg base "legs" 4 ["frame", "start"] (spP C r_legs))
    (c_frame_of : CallOk P w K mg base "frame_of" 3 ["board"] (spP C r_frm)) (c_unfolded : CallOk P w K mg base "unfolded" 1 ["square", "point"] (spP C r_unf)) : CallOk P w K mg base "stretches" 5 ["board", "square", "point"] (spP C r_str) := by
  refine .mk' d (fun f fd F => fn_pure F sc_stretches (fun ds d h => by cases h <;> rfl) fun cdv A outer s H E ds d hr h => ?_) (fun _ _ _ _ _ _ us hl => match us, hl with | [_, _, _], _ => rfl)
  cases h with
  | mk w0 h0 kvs s p l k o kp e =>
    refine ⟨_, (pss_cons (ps_expr (pe_callC c_check_way hr (by decide) rfl (pa_cons (pv 0) (pa_cons (pv 1) (pa_cons (pv 2) pa_nil)))))
      (pss_cons (ps_set (i := 3) sc_stretches.nd rfl (Or.inl rfl) (pe_lst pa_nil))
      (pss_cons (ps_for PassesOwn.never rfl (pi_list (pe_callC c_legs hr (by decide) rfl (pa_cons (pe_callC c_frame_of hr (by decide) rfl (pa_cons (pv 0) pa_nil)) (pa_cons (pe_callC c_unfolded hr (by decide) rfl (pa_cons (pv 1) (pa_cons (pv 2) pa_nil))) pa_nil)))) (pg_tup rfl (pgs_cons (pg_name (i := 4) sc_stretches.nd rfl (Or.inl rfl)) (pgs_cons (pg_name (i := 5) sc_stretches.nd rfl (Or.inl rfl)) (pgs_cons (pg_name (i := 6) sc_stretches.nd rfl (Or.inl rfl)) pgs_nil))))
      (pss_one (ps_if (pt_cmp (pc_isN (pv 6))) (pss_one (ps_expr (pe_bm PySem.F.plainAttrs_list PySem.F.slot_list_append PySem.F.type_list_append mt_append (pv 3) (pa_cons (pe_tup (pa_cons (pv 4) (pa_cons pe_non pa_nil))) pa_nil)))) (pss_one (ps_if (pt_cmpR (op_eqD hr.units) (pv 3) (pe_lst pa_nil) (nomark _)) (pss_one (ps_expr (pe_bm PySem.F.plainAttrs_list PySem.F.slot_list_append PySem.F.type_list_append mt_append (pv 3) (pa_cons (pe_tup (pa_cons (pe_op op_add (pv 4) pe_int) (pa_cons (pe_slice sl_tup (pv 6) po_none (po_some pe_int)) pa_nil))) pa_nil)))) (pss_one (ps_expr (pe_bm PySem.F.plainAttrs_list PySem.F.slot_list_append PySem.F.type_list_append mt_append (pv 3) (pa_cons (pe_tup (pa_cons (pv 4) (pa_cons (pe_slice sl_tup (pv 6) po_none (po_some pe_int)) pa_nil))) pa_nil)))))))))
      (pss_one (ps_ret (pv 3)))))), ?_⟩
    have S := k.frW
    have hl := legs_len S e
    walk_at "drop"
    refine rr_seq run_newL ?_
    refine rr_for (xs := l.map encL) (Pst := fun e => ∃ x y z, e = [.p (.brd w0 h0 kvs), .p (dP s), .p (dP p), .oL (strGo true l), x, y, z]) (by walk_at "ev") ?loop ?after
    case after =>
      rintro e ⟨x, y, z, rfl⟩
      refine rr_frL (i := 3) (ds := strGo true l) rfl ?_
      walk_at "ret"
    case loop =>
      refine (?_ : ∀ (l : List Leg) (ds : List D) (x y z : Sl), ds.length + l.length ≤ 200 → D.flL 3 ds = true → ∃ e, LoopR C _ _ (l.map encL) [.p (.brd w0 h0 kvs), .p (dP s), .p (dP p), .oL ds, x, y, z] (.nx e) ∧
        ∃ x y z, e = [.p (.brd w0 h0 kvs), .p (dP s), .p (dP p), .oL (ds ++ strGo ds.isEmpty l), x, y, z]) l [] .no .no .no (by show 0 + _ ≤ 200; omega) rfl
      intro l
      induction l with
      | nil => intro ds x y z _ _; exact ⟨_, rfl, _, _, _, by rw [strGo, List.append_nil]⟩
      | cons q l ih =>
        intro ds x y z hd hf
        rw [List.length_cons] at hd
        have hfl : D.flL 3 (ds ++ [strD ds.isEmpty q]) = true := by
          have : ∀ ds : List D, D.flL 3 ds = true → D.flL 3 (ds ++ [strD ds.isEmpty q]) = true := by
            intro ds h
            generalize ds.isEmpty = b
            induction ds with
            | nil => simp only [List.nil_append, D.flL, strD_fl, Bool.and_self]
            | cons a r ih =>
              have h : (D.fl 3 a && D.flL 3 r) = true := h
              obtain ⟨h1, h2⟩ := Bool.and_eq_true_iff.mp h
              show (D.fl 3 a && D.flL 3 (r ++ _)) = true
              rw [h1, ih h2]; rfl
          exact this ds hf
        have hlen : ds.length < sizeLine := Nat.lt_of_le_of_lt (by omega : ds.length ≤ 200) (by decide)
        have fin : ∀ x y z, ∃ e, LoopR C (gTup (cxOf CX0 P w K mg base N_stretches "stretches" (defScope s_stretches) f cdv A outer _ H E).nox.K 3 (gCons (gName 4) (gCons (gName 5) (gCons (gName 6) gNil)))) _ (l.map encL) [.p (.brd w0 h0 kvs), .p (dP s), .p (dP p), .oL (ds ++ [strD ds.isEmpty q]), x, y, z] (.nx e) ∧
            ∃ x y z, e = [.p (.brd w0 h0 kvs), .p (dP s), .p (dP p), .oL (ds ++ strGo ds.isEmpty (q :: l)), x, y, z] := fun x y z => by
          obtain ⟨e, h1, h2⟩ := ih (ds ++ [strD ds.isEmpty q]) x y z (by rw [List.length_append, List.length_singleton]; omega) hfl
          refine ⟨e, h1, ?_⟩
          rw [List.append_assoc, show (ds ++ [strD ds.isEmpty q]).isEmpty = false by cases ds <;> rfl] at h2
          exact h2
        obtain ⟨n, o⟩ := q
        cases o with
        | none =>
          obtain ⟨e, h1, h2⟩ := fin (.p (.int n)) (.p .non) (.p .non)
          refine ⟨e, ⟨_, by walk_at "tgt", .nx _, ?_, h1⟩, h2⟩
          refine run_ifT (by walk_at "evr") rfl ?_
          refine run_eq (run_append (d := strD ds.isEmpty (n, none)) (ev_is (d := .tup [.int n, .non]) (by walk_at "ev") rfl) rfl hlen) rfl
        | some pm =>
          obtain ⟨pl, m⟩ := pm
          obtain ⟨e, h1, h2⟩ := fin (.p (.int n)) (.p (dP pl)) (.p (encM m))
          refine ⟨e, ⟨_, by walk_at "tgt", .nx _, ?_, h1⟩, h2⟩
          refine run_ifF (by walk_at "evr") rfl ?_
          cases ds with
          | nil =>
            refine run_ifT (et_test (ev_eqNil (n := 3) rfl hf (by decide))) rfl ?_
            exact run_eq (run_append (d := strD true (n, some (pl, m))) (ev_is (d := .tup [.int (n + 1), .tup [.int m.x, .int m.y]]) (ev_tup (ea_cons (by walk_at "ev") (ea_cons (ev_is (ev_slT (n := 2) (ev_var rfl) (Nat.lt_of_sub_eq_succ rfl)) rfl) ea_nil)) (Nat.le_of_ble_eq_true rfl)) rfl) rfl hlen) rfl
          | cons a r =>
            refine run_ifF (et_test (ev_eqNil (n := 3) rfl hf (by decide))) rfl ?_
            exact run_eq (run_append (d := strD false (n, some (pl, m))) (ev_is (d := .tup [.int n, .tup [.int m.x, .int m.y]]) (ev_tup (ea_cons (by walk_at "ev") (ea_cons (ev_is (ev_slT (n := 2) (ev_var rfl) (Nat.lt_of_sub_eq_succ rfl)) rfl) ea_nil)) (Nat.le_of_ble_eq_true rfl)) rfl) rfl hlen) rfl
end
end Sw
end
section
open PySem PySem.Spec PyProof.Rows L2 Sw Sd
local macro_rules | `(tactic| walk_at "ev") => `(tactic| first
  | with_reducible exact ev_cI
  | with_reducible exact ev_cS
  | with_reducible exact ev_cB
  | with_reducible exact ev_cN
  | with_reducible exact ea_nil
  | ((with_reducible apply ev_var); rfl)
  | ((with_reducible apply ea_cons); (· walk_at "ev"); (· walk_at "ev"))
  | ((with_reducible apply ev_add); (· walk_at "ev"); (· walk_at "ev"))
  | ((with_reducible apply ev_sub); (· walk_at "ev"); (· walk_at "ev"))
  | ((with_reducible apply ev_min2); (· walk_at "ev"); (· walk_at "ev"))
  | ((with_reducible apply ev_lt); (· walk_at "ev"); (· walk_at "ev"))
  | ((with_reducible apply ev_le); (· walk_at "ev"); (· walk_at "ev"))
  | ((with_reducible apply ev_gt); (· walk_at "ev"); (· walk_at "ev"))
  | ((with_reducible apply ev_ge); (· walk_at "ev"); (· walk_at "ev"))
  | ((with_reducible apply ev_eqI); (· walk_at "ev"); (· walk_at "ev"))
  | ((with_reducible apply ev_eqS); (· walk_at "ev"); (· walk_at "ev"))
  | ((with_reducible apply ev_eqB); (· walk_at "ev"); (· walk_at "ev"))
  | ((with_reducible apply ev_neI); (· walk_at "ev"); (· walk_at "ev"))
  | ((with_reducible apply ev_neg); (· walk_at "ev"))
  | ((with_reducible apply ev_isN); (· walk_at "ev"))
  | ((with_reducible apply ev_notN); (· walk_at "ev"))
  | ((with_reducible apply et_test); (· walk_at "ev"))
  | ((with_reducible apply et_B); (· walk_at "ev"))
  | ((with_reducible apply et_not); (· walk_at "ev"))
  | ((with_reducible apply ev_tup); (· walk_at "ev"); (· exact Nat.le_of_ble_eq_true rfl))
  | ((with_reducible apply ev_lst); (· walk_at "ev"); (· exact Nat.le_of_ble_eq_true rfl))
  | ((with_reducible apply ev_ix); (· walk_at "ev"); (· walk_at "ev"); (· rfl); (· rfl))
  | ((with_reducible apply ev_mulS); (· walk_at "ev"); (· walk_at "ev"); (· first | exact .inl ⟨by decide, by decide⟩ | exact .inr ⟨by decide, by decide⟩))
  | ((with_reducible apply ev_mulW); (· walk_at "ev"); (· walk_at "ev"); (· walk_at "sd"))
  | ((with_reducible apply ev_mod); (· walk_at "ev"); (· walk_at "ev"); (· walk_at "sd"))
  | ((with_reducible apply ev_div); (· walk_at "ev"); (· walk_at "ev"); (· walk_at "sd"))
  | ((with_reducible apply ev_prop); (· walk_at "ev"); (· walk_at "pr"))
  | ((with_reducible apply ev_chain); (· walk_at "ev"); (· walk_at "ev"); (· walk_at "ev"); (· exact r2_cmp); (· exact r2_cmp))
  | ((with_reducible apply ev_call); (· walk_at "ev"); (· walk_at "rel")))
local macro_rules | `(tactic| walk_at "sd") => `(tactic| first | assumption | decide | omega)
local macro_rules | `(tactic| walk_at "ret") => `(tactic| (apply rr_ret; (· walk_at "ev"); (try rfl)))
local macro_rules | `(tactic| walk_at "asg") => `(tactic| (apply run_asg; (· walk_at "ev"); (· walk_at "tgt")))
local macro_rules | `(tactic| walk_at "tgt") => `(tactic| first
  | with_reducible exact eg_name
  | ((apply eg_tup); (· rfl); (· walk_at "tgt"))
  | with_reducible exact egs_nil
  | ((with_reducible apply egs_cons); (· walk_at "tgt"); (· walk_at "tgt")))
local macro_rules | `(tactic| walk_at "set") => `(tactic| (apply rr_seq; (· walk_at "asg")))
local macro_rules | `(tactic| walk_at "par") => `(tactic| (apply rr_seq; (· apply run_par; walk_at "ev")))
local macro_rules | `(tactic| walk_at "asgE") => `(tactic| (apply run_eq; (· walk_at "asg"); (· rfl)))
local macro_rules | `(tactic| walk_at "parE") => `(tactic| (apply run_eq; (· apply run_par; walk_at "ev"); (· rfl)))
local macro_rules | `(tactic| walk_at "evr") => `(tactic| first | (apply et_is; (· walk_at "ev"); (· rfl)) | (apply ev_is; (· walk_at "ev"); (· rfl)))
local macro_rules | `(tactic| walk_at "drop") => `(tactic| (apply rr_seq; (· apply run_drop; walk_at "ev")))

namespace Sw
open Sd
local macro_rules | `(tactic| walk_at "rel") => `(tactic| first
  | exact r_loc.mk _ _ _ _ (by assumption) (by assumption)
  | exact r_csq.mk _ _ _ _ (by assumption)
  | exact r_cway.mk _ _ _ _ _ (by assumption) (by assumption)
  | exact r_frm.mk _ _ _ (by assumption)
  | exact r_legs.mk _ (by assumption) _ _ _ (by assumption)
  | exact r_str.mk _ _ _ _ _ _ (by assumption) (by assumption) (by assumption) (by assumption)
  | exact r_flen.mk _ _ _ _ _ (by assumption) (by assumption) (by assumption)
  | exact r_steps.mk3 _ (by assumption) _ _ _ _ _
  | exact r_steps.mk2 _ (by assumption) _ _ _ _
  | exact r_tom.mk _ (by assumption) _ _
  | exact r_from.mk _ (by assumption) _ _ _ _ (by assumption)
  | exact r_behind.mk _ _ _ _
  | exact r_gcd.mk _ _ (by assumption) (by assumption) (by assumption) (by assumption)
  | exact r_cls.mk _ _ _ (by assumption)
  | exact r_fsq.mk _ _ (by assumption)
  | exact r_fpt.mk _ _ (by assumption)
  | exact r_pts.mk _ _
  | exact r_unf.mk _ _ _ _)
local macro_rules | `(tactic| walk_at "pr") => `(tactic| first
  | exact r_w.mk _ _ _
  | exact r_h.mk _ _ _
  | exact r_mirs.mk _ _ _ (by assumption))

section
variable {C : Addr} {K : PySem.W.Frag} {te : TE} {vs : List Nat} {es : Es} {xs r : List D} {a b c y : D} {i j k n : Nat}
theorem lc_cons1 (hi : i ∈ vs) (he : EvM C te (es.set i (.p a)) y (es.set i (.p a))) (hno : NoAt es vs) (kk : LcR C (gName i) te vs xs es r es) : LcR C (gName i) te vs (a :: xs) es (y :: r) es :=
  ⟨_, y, _, es, r, egw_name hi, he, rfl, hno, by simp, fun m hm => by rw [List.getElem?_set_ne (fun (e : i = m) => hm (by rw [← e]; exact hi))], kk⟩
theorem lc_cons2 (hi : i ∈ vs) (hj : j ∈ vs) (hn : 2 = n) (he : EvM C te ((es.set i (.p a)).set j (.p b)) y ((es.set i (.p a)).set j (.p b))) (hno : NoAt es vs)
    (kk : LcR C (gTup K n (gCons (gName i) (gCons (gName j) gNil))) te vs xs es r es) : LcR C (gTup K n (gCons (gName i) (gCons (gName j) gNil))) te vs (.tup [a, b] :: xs) es (y :: r) es :=
  ⟨_, y, _, es, r, egw_tup hn (egsw_cons (egw_name hi) (egsw_cons (egw_name hj) egsw_nil)), he, rfl, hno, by simp, fun m hm => by
    rw [List.getElem?_set_ne (fun (e : j = m) => hm (by rw [← e]; exact hj)), List.getElem?_set_ne (fun (e : i = m) => hm (by rw [← e]; exact hi))], kk⟩
theorem lc_cons3 (hi : i ∈ vs) (hj : j ∈ vs) (hk : k ∈ vs) (hn : 3 = n) (he : EvM C te (((es.set i (.p a)).set j (.p b)).set k (.p c)) y (((es.set i (.p a)).set j (.p b)).set k (.p c))) (hno : NoAt es vs)
    (kk : LcR C (gTup K n (gCons (gName i) (gCons (gName j) (gCons (gName k) gNil)))) te vs xs es r es) : LcR C (gTup K n (gCons (gName i) (gCons (gName j) (gCons (gName k) gNil)))) te vs (.tup [a, b, c] :: xs) es (y :: r) es :=
  ⟨_, y, _, es, r, egw_tup hn (egsw_cons (egw_name hi) (egsw_cons (egw_name hj) (egsw_cons (egw_name hk) egsw_nil))), he, rfl, hno, by simp, fun m hm => by
    rw [List.getElem?_set_ne (fun (e : k = m) => hm (by rw [← e]; exact hk)), List.getElem?_set_ne (fun (e : j = m) => hm (by rw [← e]; exact hj)), List.getElem?_set_ne (fun (e : i = m) => hm (by rw [← e]; exact hi))], kk⟩
theorem lc_nil {g : TG} : LcR C g te vs [] es [] es := ⟨rfl, rfl⟩
theorem num_len : ∀ (b : Bool) (l : List Leg), (numGo b l).length = l.length
  | _, [] => rfl
  | b, x :: l => by show (numGo false l).length + 1 = _; rw [num_len false l]; rfl
/-- the places of legs: the last one alone has none -/
inductive LN : List Leg → Prop
  | one (n : Int) : LN [(n, none)]
  | cons (n : Int) (x : P2 × Mir) {l : List Leg} : LN l → LN ((n, some x) :: l)
theorem ln_of {F : Fr} {start : P2} {T f : Nat} {place : P2} {l : List Leg} (h : LegsOk F start T f place l) : LN l := by
  induction h with
  | last => exact .one _
  | step h1 hf h2 ih => exact .cons _ _ ih
theorem legs_ln {F : Fr} (S : FrW F) {p : P2} {l : List Leg} (e : legs F p = some l) : LN l := by
  cases t : toMirror F p with
  | none =>
    unfold legs at e
    rw [t] at e
    have e := Option.some.inj e
    subst e
    exact .one _
  | some b =>
    obtain ⟨n, m⟩ := b
    obtain ⟨l', e', h, _⟩ := legs_ok S.toFrS t
    rw [e] at e'
    cases e'
    exact ln_of h
theorem len_pos {F : Fr} (S : FrW F) {p : P2} {l : List Leg} (e : legs F p = some l) : 0 < lenOf l := by
  obtain ⟨n, h1, h2⟩ := farLen_ok S.toFrS p
  unfold farLen at h1
  rw [e] at h1
  have h1 : lenOf l = (n : Int) := Option.some.inj h1
  have := h2.ret.1
  omega
end
section
variable {P : Program} {w : World} {K : PySem.W.Frag} {mg : Str → Option Value} {base : Heap} {C : Addr}
/-! ### far_length -/
theorem ok_flen (d : Df K mg "far_length" s_far_length) (T : Txt K mg C) (c_check_square : CallOk P w K mg base "check_square" 3 ["board", "square"] (spP C r_csq)) (c_stretches : CallOk P w K mg base "stretches" 5 ["board", "square", "point"] (spP C r_str))
    (c_points_of : CallOk P w K mg base "points_of" 1 ["square"] (spP C r_pts)) : CallOk P w K mg base "far_length" 6 ["board", "square"] (spP C r_flen) := by
  refine .mk' d (fun f fd F => fn_pure F sc_far_length (fun ds d h => by cases h <;> rfl) fun cdv A outer s H E ds d hr h => ?_) (fun _ _ _ _ _ _ us hl => match us, hl with | [_, _], _ => rfl)
  cases h with
  | mk w0 h0 kvs s n k o e =>
    refine ⟨_, (pss_cons (ps_expr (pe_callC c_check_square hr (by decide) rfl (pa_cons (pv 0) (pa_cons (pv 1) pa_nil))))
      (pss_one (ps_ret (pe_callB (cr_sum rfl) rfl T.b_sum (by decide +kernel) (pa_cons (pe_lc (own := [("many", 2), ("place", 3)]) (g := (gTup K 2 (gCons (gName 2) (gCons (gName 3) gNil)))) (tt := tYes) rfl sc_far_length.nd (pi_list (pe_callC c_stretches hr (by decide) rfl (pa_cons (pv 0) (pa_cons (pv 1) (pa_cons (pe_ix ix_seq (pe_callC c_points_of hr (by decide) rfl (pa_cons (pv 1) pa_nil)) pe_int (fun _ _ => rfl)) pa_nil))))) (blkOk_by (own := [("many", 2), ("place", 3)]) (N := N_far_length) (sc := defScope s_far_length) (by decide +kernel)) (fun _ _ _ _ _ => (pg_tup rfl (pgs_cons (pg_name (i := 2) sc_far_length.nd rfl (Or.inl rfl)) (pgs_cons (pg_name (i := 3) sc_far_length.nd rfl (Or.inl rfl)) pgs_nil)))) (fun _ _ _ _ _ => pts_nil) (fun _ _ _ _ _ => (pv 2))) pa_nil))))), ?_⟩
    have S := k.frW
    cases el : legs (frameOf w0 h0 (mirs kvs)) (unf s (pts s).1) with
    | none => unfold farLen at e; rw [el] at e; cases e
    | some l =>
      have en : lenOf l = n := by unfold farLen at e; rw [el] at e; exact Option.some.inj e
      have hl := legs_len S el
      have kp : IsPt s (pts s).1 := .inl rfl
      walk_at "drop"
      rw [← en, ← num_sum S el]
      have hno : NoAt [.p (.brd w0 h0 kvs), .p (dP s), .no, .no] [2, 3] := by
        intro i hi s e
        rcases List.mem_cons.mp hi with rfl | hi
        · cases e; rfl
        · rcases List.mem_cons.mp hi with rfl | hi
          · cases e; rfl
          · cases hi
      refine rr_ret (ev_sum (ns := numGo true l) (ev_lc (xs := strGo true l) (e1 := [.p (.brd w0 h0 kvs), .p (dP s), .no, .no]) (ev_call (ds := [.brd w0 h0 kvs, dP s, dP (pts s).1]) (ea_cons (ev_var rfl) (ea_cons (ev_var rfl) (ea_cons (ev_ix (ev_call (ea_cons (ev_var rfl) ea_nil) (r_pts.mk s.1 s.2)) ev_cI rfl rfl) ea_nil))) (r_str.mk w0 h0 kvs s (pts s).1 l k o kp el)) hno ?_ hno ?_)) rfl
      · refine (?_ : ∀ (b : Bool) (l : List Leg), LcR C _ _ _ (strGo b l) _ ((numGo b l).map D.int) _) true l
        intro b l
        induction l generalizing b with
        | nil => exact lc_nil
        | cons x l ih => exact lc_cons2 (by decide) (by decide) rfl (ev_var rfl) hno (ih false)
      · rw [List.length_map, num_len]
        exact Nat.lt_of_le_of_lt hl (by decide)
end
end Sw
end
section
open PySem PySem.Spec PyProof.Rows L2 Sw Sd
local macro_rules | `(tactic| walk_at "ev") => `(tactic| first
  | with_reducible exact ev_cI
  | with_reducible exact ev_cS
  | with_reducible exact ev_cB
  | with_reducible exact ev_cN
  | with_reducible exact ea_nil
  | ((with_reducible apply ev_var); rfl)
  | ((with_reducible apply ea_cons); (· walk_at "ev"); (· walk_at "ev"))
  | ((with_reducible apply ev_add); (· walk_at "ev"); (· walk_at "ev"))
  | ((with_reducible apply ev_sub); (· walk_at "ev"); (· walk_at "ev"))
  | ((with_reducible apply ev_min2); (· walk_at "ev"); (· walk_at "ev"))
  | ((with_reducible apply ev_lt); (· walk_at "ev"); (· walk_at "ev"))
  | ((with_reducible apply ev_le); (· walk_at "ev"); (· walk_at "ev"))
  | ((with_reducible apply ev_gt); (· walk_at "ev"); (· walk_at "ev"))
  | ((with_reducible apply ev_ge); (· walk_at "ev"); (· walk_at "ev"))
  | ((with_reducible apply ev_eqI); (· walk_at "ev"); (· walk_at "ev"))
  | ((with_reducible apply ev_eqS); (· walk_at "ev"); (· walk_at "ev"))
  | ((with_reducible apply ev_eqB); (· walk_at "ev"); (· walk_at "ev"))
  | ((with_reducible apply ev_neI); (· walk_at "ev"); (· walk_at "ev"))
  | ((with_reducible apply ev_neg); (· walk_at "ev"))
  | ((with_reducible apply ev_isN); (· walk_at "ev"))
  | ((with_reducible apply ev_notN); (· walk_at "ev"))
  | ((with_reducible apply et_test); (· walk_at "ev"))
  | ((with_reducible apply et_B); (· walk_at "ev"))
  | ((with_reducible apply et_not); (· walk_at "ev"))
  | ((with_reducible apply ev_tup); (· walk_at "ev"); (· exact Nat.le_of_ble_eq_true rfl))
  | ((with_reducible apply ev_lst); (· walk_at "ev"); (· exact Nat.le_of_ble_eq_true rfl))
  | ((with_reducible apply ev_ix); (· walk_at "ev"); (· walk_at "ev"); (· rfl); (· rfl))
  | ((with_reducible apply ev_mulS); (· walk_at "ev"); (· walk_at "ev"); (· first | exact .inl ⟨by decide, by decide⟩ | exact .inr ⟨by decide, by decide⟩))
  | ((with_reducible apply ev_mulW); (· walk_at "ev"); (· walk_at "ev"); (· walk_at "sd"))
  | ((with_reducible apply ev_mod); (· walk_at "ev"); (· walk_at "ev"); (· walk_at "sd"))
  | ((with_reducible apply ev_div); (· walk_at "ev"); (· walk_at "ev"); (· walk_at "sd"))
  | ((with_reducible apply ev_prop); (· walk_at "ev"); (· walk_at "pr"))
  | ((with_reducible apply ev_chain); (· walk_at "ev"); (· walk_at "ev"); (· walk_at "ev"); (· exact r2_cmp); (· exact r2_cmp))
  | ((with_reducible apply ev_call); (· walk_at "ev"); (· walk_at "rel")))
local macro_rules | `(tactic| walk_at "sd") => `(tactic| first | assumption | decide | omega)
local macro_rules | `(tactic| walk_at "ret") => `(tactic| (apply rr_ret; (· walk_at "ev"); (try rfl)))
local macro_rules | `(tactic| walk_at "asg") => `(tactic| (apply run_asg; (· walk_at "ev"); (· walk_at "tgt")))
local macro_rules | `(tactic| walk_at "tgt") => `(tactic| first
  | with_reducible exact eg_name
  | ((apply eg_tup); (· rfl); (· walk_at "tgt"))
  | with_reducible exact egs_nil
  | ((with_reducible apply egs_cons); (· walk_at "tgt"); (· walk_at "tgt")))
local macro_rules | `(tactic| walk_at "set") => `(tactic| (apply rr_seq; (· walk_at "asg")))
local macro_rules | `(tactic| walk_at "par") => `(tactic| (apply rr_seq; (· apply run_par; walk_at "ev")))
local macro_rules | `(tactic| walk_at "asgE") => `(tactic| (apply run_eq; (· walk_at "asg"); (· rfl)))
local macro_rules | `(tactic| walk_at "parE") => `(tactic| (apply run_eq; (· apply run_par; walk_at "ev"); (· rfl)))
local macro_rules | `(tactic| walk_at "evr") => `(tactic| first | (apply et_is; (· walk_at "ev"); (· rfl)) | (apply ev_is; (· walk_at "ev"); (· rfl)))
local macro_rules | `(tactic| walk_at "drop") => `(tactic| (apply rr_seq; (· apply run_drop; walk_at "ev")))

namespace Sw
open Sd
local macro_rules | `(tactic| walk_at "rel") => `(tactic| first
  | exact r_loc.mk _ _ _ _ (by assumption) (by assumption)
  | exact r_csq.mk _ _ _ _ (by assumption)
  | exact r_cway.mk _ _ _ _ _ (by assumption) (by assumption)
  | exact r_frm.mk _ _ _ (by assumption)
  | exact r_legs.mk _ (by assumption) _ _ _ (by assumption)
  | exact r_str.mk _ _ _ _ _ _ (by assumption) (by assumption) (by assumption) (by assumption)
  | exact r_flen.mk _ _ _ _ _ (by assumption) (by assumption) (by assumption)
  | exact r_steps.mk3 _ (by assumption) _ _ _ _ _
  | exact r_steps.mk2 _ (by assumption) _ _ _ _
  | exact r_tom.mk _ (by assumption) _ _
  | exact r_from.mk _ (by assumption) _ _ _ _ (by assumption)
  | exact r_behind.mk _ _ _ _
  | exact r_gcd.mk _ _ (by assumption) (by assumption) (by assumption) (by assumption)
  | exact r_cls.mk _ _ _ (by assumption)
  | exact r_fsq.mk _ _ (by assumption)
  | exact r_fpt.mk _ _ (by assumption)
  | exact r_pts.mk _ _
  | exact r_unf.mk _ _ _ _)
local macro_rules | `(tactic| walk_at "pr") => `(tactic| first
  | exact r_w.mk _ _ _
  | exact r_h.mk _ _ _
  | exact r_mirs.mk _ _ _ (by assumption))

inductive r_go : List D → D → Prop where
  | mk (w h : Int) (kvs : List ((Int × Int) × Str)) (s p : P2) (n : Int) (q : P2) (k : KvOk w h kvs) (o : OnB w h s) (kp : IsPt s p) (hn : 0 ≤ n) (e : goOn (frameOf w h (mirs kvs)) (unf s p) n = some q) :
    r_go [.brd w h kvs, dP s, dP p, .int n] (.tup [dP (located w h q).1, dP (located w h q).2])
section
variable {P : Program} {w : World} {K : PySem.W.Frag} {mg : Str → Option Value} {base : Heap} {C : Addr}
theorem no3 {es : Es} {i j k : Nat} (h1 : es[i]? = some .no) (h2 : es[j]? = some .no) (h3 : es[k]? = some .no) : NoAt es [i, j, k] := by
  intro a ha s e
  simp only [List.mem_cons, List.not_mem_nil, or_false] at ha
  rcases ha with rfl | rfl | rfl
  · rw [h1] at e; cases e; rfl
  · rw [h2] at e; cases e; rfl
  · rw [h3] at e; cases e; rfl
theorem no2 {es : Es} {i j : Nat} (h1 : es[i]? = some .no) (h2 : es[j]? = some .no) : NoAt es [i, j] := by
  intro a ha s e
  simp only [List.mem_cons, List.not_mem_nil, or_false] at ha
  rcases ha with rfl | rfl
  · rw [h1] at e; cases e; rfl
  · rw [h2] at e; cases e; rfl
theorem no1 {es : Es} {i : Nat} (h1 : es[i]? = some .no) : NoAt es [i] := by
  intro a ha s e
  simp only [List.mem_cons, List.not_mem_nil, or_false] at ha
  subst ha
  rw [h1] at e; cases e; rfl
theorem ok_go (d : Df K mg "go_on" s_go_on) (T : Txt K mg C) (c_check_way : CallOk P w K mg base "check_way" 4 ["board", "square", "point"] (spP C r_cway)) (c_legs : CallOk P w K mg base "legs" 4 ["frame", "start"] (spP C r_legs))
    (c_frame_of : CallOk P w K mg base "frame_of" 3 ["board"] (spP C r_frm)) (c_unfolded : CallOk P w K mg base "unfolded" 1 ["square", "point"] (spP C r_unf)) (c_located : CallOk P w K mg base "located" 3 ["board", "place"] (spP C r_loc)) :
    CallOk P w K mg base "go_on" 5 ["board", "square", "point", "steps"] (spP C r_go) := by
  refine .mk' d (fun f fd F => fn_pure F sc_go_on (fun ds d h => by cases h <;> rfl) fun cdv A outer s0 H E ds d hr h => ?_) (fun _ _ _ _ _ _ us hl => match us, hl with | [_, _, _, _], _ => rfl)
  cases h with
  | mk w0 h0 kvs s p n q k o kp hn e =>
    refine ⟨_, (pss_cons (ps_expr (pe_callC c_check_way hr (by decide) rfl (pa_cons (pv 0) (pa_cons (pv 1) (pa_cons (pv 2) pa_nil)))))
      (pss_cons (ps_if (pt_cmpR op_lt (pv 3) pe_int (nomark _)) pss_never pss_nil)
      (pss_cons (ps_set (i := 4) sc_go_on.nd rfl (Or.inl rfl) (pe_callC c_unfolded hr (by decide) rfl (pa_cons (pv 1) (pa_cons (pv 2) pa_nil))))
      (pss_cons (ps_set (i := 5) sc_go_on.nd rfl (Or.inl rfl) (pe_callC c_legs hr (by decide) rfl (pa_cons (pe_callC c_frame_of hr (by decide) rfl (pa_cons (pv 0) pa_nil)) (pa_cons (pv 4) pa_nil))))
      (pss_cons (ps_set (i := 9) sc_go_on.nd rfl (Or.inl rfl) (pe_callB (cr_sum rfl) rfl T.b_sum (by decide +kernel) (pa_cons (pe_lc (own := [("many", 6), ("later", 7), ("mirror", 8)]) (g := (gTup K 3 (gCons (gName 6) (gCons (gName 7) (gCons (gName 8) gNil))))) (tt := tYes) rfl sc_go_on.nd (pi_list (pv 5)) (blkOk_by (own := [("many", 6), ("later", 7), ("mirror", 8)]) (N := N_go_on) (sc := defScope s_go_on) (by decide +kernel)) (fun _ _ _ _ _ => (pg_tup rfl (pgs_cons (pg_name (i := 6) sc_go_on.nd rfl (Or.inl rfl)) (pgs_cons (pg_name (i := 7) sc_go_on.nd rfl (Or.inl rfl)) (pgs_cons (pg_name (i := 8) sc_go_on.nd rfl (Or.inl rfl)) pgs_nil))))) (fun _ _ _ _ _ => pts_nil) (fun _ _ _ _ _ => (pv 6))) pa_nil)))
      (pss_cons (ps_if (pt_cmpR op_gt (pe_callB call_len_seq rfl T.b_len PySem.boot_len (pa_cons (pv 5) pa_nil)) pe_int (nomark _)) (pss_one (ps_aug (i := 9) sc_go_on.nd rfl (Or.inl rfl) pe_int ip_add)) pss_nil)
      (pss_cons (ps_set (i := 10) sc_go_on.nd rfl (Or.inl rfl) (pe_op op_mod (pv 3) (pv 9)))
      (pss_cons (ps_for PassesOwn.never rfl (pi_list (pv 5)) (pg_tup rfl (pgs_cons (pg_name (i := 6) sc_go_on.nd rfl (Or.inl rfl)) (pgs_cons (pg_name (i := 7) sc_go_on.nd rfl (Or.inl rfl)) (pgs_cons (pg_name (i := 8) sc_go_on.nd rfl (Or.inl rfl)) pgs_nil))))
      (pss_cons (ps_if (PW.pt (pw_or (pt_cmp (pc_isN (pv 8))) (pw_or1 (pt_cmpR op_le (pv 10) (pv 6) (nomark _))))) (pss_one ps_break) pss_nil)
      (pss_cons (ps_aug (i := 10) sc_go_on.nd rfl (Or.inl rfl) (pv 6) ip_sub)
      (pss_one (ps_set (i := 4) sc_go_on.nd rfl (Or.inl rfl) (pv 7))))))
      (pss_one (ps_ret (pe_callC c_located hr (by decide) rfl (pa_cons (pv 0) (pa_cons (pe_tup (pa_cons (pe_op op_add (pe_ix ix_seq (pv 4) pe_int (fun _ _ => rfl)) (pv 10)) (pa_cons (pe_op op_add (pe_ix ix_seq (pv 4) pe_int (fun _ _ => rfl)) (pv 10)) pa_nil))) pa_nil))))))))))))), ?_⟩
    have S := k.frW
    have hw : 1 ≤ w0 := k.ms.w0
    have hh : 1 ≤ h0 := k.ms.h0
    cases el : legs (frameOf w0 h0 (mirs kvs)) (unf s p) with
    | none => unfold goOn at e; rw [el] at e; cases e
    | some l =>
      unfold goOn at e
      rw [el] at e
      have e := Option.some.inj e
      have hl := legs_len S el
      have hpos := len_pos S el
      walk_at "drop"
      refine rr_skip (by walk_at "ev") (decide_eq_false (by omega)) ?_
      refine rr_seq (run_asg (d := dP (unf s p)) (ev_is (by walk_at "ev") (by rfl)) (by walk_at "tgt")) ?_
      refine rr_seq (run_asg (d := .lst (l.map encL)) (ev_call (ds := [encF (frameOf w0 h0 (mirs kvs)), dP (unf s p)]) (by walk_at "ev") (r_legs.mk _ S _ _ l el)) (by walk_at "tgt")) ?_
      have hno : NoAt [.p (.brd w0 h0 kvs), .p (dP s), .p (dP p), .p (.int n), .p (dP (unf s p)), .p (.lst (l.map encL)), .no, .no, .no, .no, .no] [6, 7, 8] := no3 rfl rfl rfl
      refine rr_seq (run_asg (d := .int (sumL l)) (ev_is (ev_sum (ns := l.map (·.1)) (ev_lc (xs := l.map encL) (e1 := [.p (.brd w0 h0 kvs), .p (dP s), .p (dP p), .p (.int n), .p (dP (unf s p)), .p (.lst (l.map encL)), .no, .no, .no, .no, .no])
        (e2 := [.p (.brd w0 h0 kvs), .p (dP s), .p (dP p), .p (.int n), .p (dP (unf s p)), .p (.lst (l.map encL)), .no, .no, .no, .no, .no]) (ev_var rfl) hno ?lc hno ?ln)) (by rfl)) (by walk_at "tgt")) ?_
      case ln =>
        rw [List.length_map, List.length_map]
        exact Nat.lt_of_le_of_lt hl (by decide)
      case lc =>
        refine (?_ : ∀ (m : List Leg), LcR C _ _ _ (m.map encL) _ ((m.map (·.1)).map D.int) _) l
        intro m
        induction m with
        | nil => exact lc_nil
        | cons x m ih =>
          obtain ⟨xn, xo⟩ := x
          cases xo with
          | none => exact lc_cons3 (by decide) (by decide) (by decide) rfl (ev_var rfl) hno ih
          | some z => obtain ⟨z1, z2⟩ := z; exact lc_cons3 (by decide) (by decide) (by decide) rfl (ev_var rfl) hno ih
      refine rr_seq (e1 := [.p (.brd w0 h0 kvs), .p (dP s), .p (dP p), .p (.int n), .p (dP (unf s p)), .p (.lst (l.map encL)), .no, .no, .no, .p (.int (lenOf l)), .no]) ?inc ?_
      case inc =>
        unfold lenOf
        by_cases c : 1 < l.length
        · rw [if_pos c]
          refine run_ifT (et_is (et_test (ev_gt (ev_len (ds := l.map encL) (ev_var rfl) rfl) ev_cI)) (decide_eq_true (by rw [List.length_map]; omega))) rfl ?_
          exact run_eq (run_aug ev_cI rfl) rfl
        · rw [if_neg c]
          exact run_ifF (et_is (et_test (ev_gt (ev_len (ds := l.map encL) (ev_var rfl) rfl) ev_cI)) (decide_eq_false (by rw [List.length_map]; omega))) rfl run_next
      refine rr_seq (e1 := [.p (.brd w0 h0 kvs), .p (dP s), .p (dP p), .p (.int n), .p (dP (unf s p)), .p (.lst (l.map encL)), .no, .no, .no, .p (.int (lenOf l)), .p (.int (n % lenOf l))]) (by walk_at "asgE") ?_
      refine rr_for (xs := l.map encL) (Pst := fun e => ∃ x y z, e = [.p (.brd w0 h0 kvs), .p (dP s), .p (dP p), .p (.int n), .p (dP (goLoop l (unf s p) (n % lenOf l)).1), .p (.lst (l.map encL)), x, y, z, .p (.int (lenOf l)), .p (.int (goLoop l (unf s p) (n % lenOf l)).2)]) (ev_var rfl) ?loop ?after
      case after =>
        rintro e' ⟨x, y, z, rfl⟩
        subst e
        refine rr_ret (by apply ev_call; (· walk_at "ev"); (· exact r_loc.mk w0 h0 kvs (shift (goLoop l (unf s p) (n % lenOf l)).1 (goLoop l (unf s p) (n % lenOf l)).2) hw hh)) rfl
      case loop =>
        generalize lenOf l = L
        have hLN := legs_ln S el
        clear hl hpos hno e el
        refine (?_ : ∀ (l' : List Leg) (pl : P2) (left : Int) (x y z : Sl), LN l' → ∃ e, LoopR C _ _ (l'.map encL) [.p (.brd w0 h0 kvs), .p (dP s), .p (dP p), .p (.int n), .p (dP pl), .p (.lst (l.map encL)), x, y, z, .p (.int L), .p (.int left)] (.nx e) ∧
          ∃ x y z, e = [.p (.brd w0 h0 kvs), .p (dP s), .p (dP p), .p (.int n), .p (dP (goLoop l' pl left).1), .p (.lst (l.map encL)), x, y, z, .p (.int L), .p (.int (goLoop l' pl left).2)]) l (unf s p) (n % L) .no .no .no hLN
        intro l' pl left x y z hLN
        induction hLN generalizing pl left x y z with
        | one m =>
          refine ⟨_, ⟨_, by walk_at "tgt", .bk _, run_ifT (et_orT (by walk_at "evr") rfl) rfl run_break, rfl⟩, .p (.int m), .p .non, .p .non, ?_⟩
          rfl
        | @cons m xo l' _ ih =>
          obtain ⟨later, mir⟩ := xo
          by_cases c : left ≤ m
          · refine ⟨_, ⟨_, by walk_at "tgt", .bk _, run_ifT (et_orF (by walk_at "evr") rfl (et_is (by walk_at "ev") (decide_eq_true c))) rfl run_break, rfl⟩, .p (.int m), .p (dP later), .p (encM mir), ?_⟩
            simp only [goLoop, if_pos c]
            rfl
          · obtain ⟨e, h1, h2⟩ := ih later (left - m) (.p (.int m)) (.p (dP later)) (.p (encM mir))
            refine ⟨e, ⟨_, by walk_at "tgt", .nx _, ?_, h1⟩, by simp only [goLoop, if_neg c]; exact h2⟩
            refine run_seq (run_ifF (et_orF (by walk_at "evr") rfl (et_is (by walk_at "ev") (decide_eq_false c))) rfl run_next) (run_seq (run_aug (by walk_at "ev") rfl) (by walk_at "asgE"))
end
end Sw
end
section
open PySem PySem.Spec PyProof.Rows L2 Sw Sd
local macro_rules | `(tactic| walk_at "ev") => `(tactic| first
  | with_reducible exact ev_cI
  | with_reducible exact ev_cS
  | with_reducible exact ev_cB
  | with_reducible exact ev_cN
  | with_reducible exact ea_nil
  | ((with_reducible apply ev_var); rfl)
  | ((with_reducible apply ea_cons); (· walk_at "ev"); (· walk_at "ev"))
  | ((with_reducible apply ev_add); (· walk_at "ev"); (· walk_at "ev"))
  | ((with_reducible apply ev_sub); (· walk_at "ev"); (· walk_at "ev"))
  | ((with_reducible apply ev_min2); (· walk_at "ev"); (· walk_at "ev"))
  | ((with_reducible apply ev_lt); (· walk_at "ev"); (· walk_at "ev"))
  | ((with_reducible apply ev_le); (· walk_at "ev"); (· walk_at "ev"))
  | ((with_reducible apply ev_gt); (· walk_at "ev"); (· walk_at "ev"))
  | ((with_reducible apply ev_ge); (· walk_at "ev"); (· walk_at "ev"))
  | ((with_reducible apply ev_eqI); (· walk_at "ev"); (· walk_at "ev"))
  | ((with_reducible apply ev_eqS); (· walk_at "ev"); (· walk_at "ev"))
  | ((with_reducible apply ev_eqB); (· walk_at "ev"); (· walk_at "ev"))
  | ((with_reducible apply ev_neI); (· walk_at "ev"); (· walk_at "ev"))
  | ((with_reducible apply ev_neg); (· walk_at "ev"))
  | ((with_reducible apply ev_isN); (· walk_at "ev"))
  | ((with_reducible apply ev_notN); (· walk_at "ev"))
  | ((with_reducible apply et_test); (· walk_at "ev"))
  | ((with_reducible apply et_B); (· walk_at "ev"))
  | ((with_reducible apply et_not); (· walk_at "ev"))
  | ((with_reducible apply ev_tup); (· walk_at "ev"); (· exact Nat.le_of_ble_eq_true rfl))
  | ((with_reducible apply ev_lst); (· walk_at "ev"); (· exact Nat.le_of_ble_eq_true rfl))
  | ((with_reducible apply ev_ix); (· walk_at "ev"); (· walk_at "ev"); (· rfl); (· rfl))
  | ((with_reducible apply ev_mulS); (· walk_at "ev"); (· walk_at "ev"); (· first | exact .inl ⟨by decide, by decide⟩ | exact .inr ⟨by decide, by decide⟩))
  | ((with_reducible apply ev_mulW); (· walk_at "ev"); (· walk_at "ev"); (· walk_at "sd"))
  | ((with_reducible apply ev_mod); (· walk_at "ev"); (· walk_at "ev"); (· walk_at "sd"))
  | ((with_reducible apply ev_div); (· walk_at "ev"); (· walk_at "ev"); (· walk_at "sd"))
  | ((with_reducible apply ev_prop); (· walk_at "ev"); (· walk_at "pr"))
  | ((with_reducible apply ev_chain); (· walk_at "ev"); (· walk_at "ev"); (· walk_at "ev"); (· exact r2_cmp); (· exact r2_cmp))
  | ((with_reducible apply ev_call); (· walk_at "ev"); (· walk_at "rel")))
local macro_rules | `(tactic| walk_at "sd") => `(tactic| first | assumption | decide | omega)
local macro_rules | `(tactic| walk_at "ret") => `(tactic| (apply rr_ret; (· walk_at "ev"); (try rfl)))
local macro_rules | `(tactic| walk_at "asg") => `(tactic| (apply run_asg; (· walk_at "ev"); (· walk_at "tgt")))
local macro_rules | `(tactic| walk_at "tgt") => `(tactic| first
  | with_reducible exact eg_name
  | ((apply eg_tup); (· rfl); (· walk_at "tgt"))
  | with_reducible exact egs_nil
  | ((with_reducible apply egs_cons); (· walk_at "tgt"); (· walk_at "tgt")))
local macro_rules | `(tactic| walk_at "set") => `(tactic| (apply rr_seq; (· walk_at "asg")))
local macro_rules | `(tactic| walk_at "par") => `(tactic| (apply rr_seq; (· apply run_par; walk_at "ev")))
local macro_rules | `(tactic| walk_at "asgE") => `(tactic| (apply run_eq; (· walk_at "asg"); (· rfl)))
local macro_rules | `(tactic| walk_at "parE") => `(tactic| (apply run_eq; (· apply run_par; walk_at "ev"); (· rfl)))
local macro_rules | `(tactic| walk_at "evr") => `(tactic| first | (apply et_is; (· walk_at "ev"); (· rfl)) | (apply ev_is; (· walk_at "ev"); (· rfl)))
local macro_rules | `(tactic| walk_at "drop") => `(tactic| (apply rr_seq; (· apply run_drop; walk_at "ev")))

namespace Sw
open Sd
local macro_rules | `(tactic| walk_at "rel") => `(tactic| first
  | exact r_loc.mk _ _ _ _ (by assumption) (by assumption)
  | exact r_csq.mk _ _ _ _ (by assumption)
  | exact r_cway.mk _ _ _ _ _ (by assumption) (by assumption)
  | exact r_frm.mk _ _ _ (by assumption)
  | exact r_legs.mk _ (by assumption) _ _ _ (by assumption)
  | exact r_str.mk _ _ _ _ _ _ (by assumption) (by assumption) (by assumption) (by assumption)
  | exact r_flen.mk _ _ _ _ _ (by assumption) (by assumption) (by assumption)
  | exact r_steps.mk3 _ (by assumption) _ _ _ _ _
  | exact r_steps.mk2 _ (by assumption) _ _ _ _
  | exact r_tom.mk _ (by assumption) _ _
  | exact r_from.mk _ (by assumption) _ _ _ _ (by assumption)
  | exact r_behind.mk _ _ _ _
  | exact r_gcd.mk _ _ (by assumption) (by assumption) (by assumption) (by assumption)
  | exact r_cls.mk _ _ _ (by assumption)
  | exact r_fsq.mk _ _ (by assumption)
  | exact r_fpt.mk _ _ (by assumption)
  | exact r_pts.mk _ _
  | exact r_unf.mk _ _ _ _)
local macro_rules | `(tactic| walk_at "pr") => `(tactic| first
  | exact r_w.mk _ _ _
  | exact r_h.mk _ _ _
  | exact r_mirs.mk _ _ _ (by assumption))

inductive r_tog : List D → D → Prop where
  | mk (w h : Int) (kvs : List ((Int × Int) × Str)) (s t : P2) (b : Bool) (k : KvOk w h kvs) (o : OnB w h s) (o2 : OnB w h t) (e : farTog (frameOf w h (mirs kvs)) (unf s (pts s).1) (unf t (pts t).1) (unf t (pts t).2) = some b) :
    r_tog [.brd w h kvs, dP s, dP t] (.bl b)
section
variable {P : Program} {w : World} {K : PySem.W.Frag} {mg : Str → Option Value} {base : Heap} {C : Addr}
/-- a loop that ends with True, or ends -/
def RtL (C : Addr) (g : TG) (t : TS) (xs : List D) (es : Es) (b : Bool) : Prop := (b = true → ∃ e, LoopR C g t xs es (.rt (.bl true) e)) ∧ (b = false → ∃ e, LoopR C g t xs es (.nx e))
theorem rt_nil {g : TG} {t : TS} {es : Es} : RtL C g t [] es false := ⟨fun z => (by cases z), fun _ => ⟨_, rfl⟩⟩
theorem rr_forB {K : PySem.W.Frag} {te : TE} {g : TG} {t u : TS} {es e1 : Es} {xs : List D} {b : Bool} (h : EvM C te es (.lst xs) e1) (l : RtL C g t xs e1 b) (k : ∀ e, RunR C u e (.bl false)) : RunR C (tSeq (tFor (iList K te) g t) u) es (.bl b) := by
  cases b with
  | true =>
    obtain ⟨e, h'⟩ := l.1 rfl
    exact rr_seqR (rr_of (run_for h h'))
  | false =>
    obtain ⟨e, h'⟩ := l.2 rfl
    exact rr_seq (run_for h h') (k e)
theorem rt_step {K : PySem.W.Frag} {te : TE} {g gi : TG} {ti u : TS} {es e1 : Es} {x : D} {xs ys : List D} {b c : Bool} {Pst : Es → Prop} (hg : EvG C g x es e1) (ht : EvM C te e1 (.lst ys) e1) (hi : ∃ e2, LoopR C gi ti ys e1 (if c = true then .rt (.bl true) e2 else .nx e2) ∧ Pst e2)
    (hp : ∀ e2, Pst e2 → ∃ e3, Run C u e2 (.nx e3) ∧ RtL C g (tSeq (tFor (iList K te) gi ti) u) xs e3 b) : RtL C g (tSeq (tFor (iList K te) gi ti) u) (x :: xs) es (if c = true then true else b) := by
  obtain ⟨e2, h1, h2⟩ := hi
  cases c with
  | true => exact ⟨fun _ => ⟨e2, _, hg, .rt (.bl true) e2, run_seqR (run_for ht h1), rfl⟩, fun z => by cases z⟩
  | false =>
    obtain ⟨e3, h3, h4⟩ := hp e2 h2
    exact ⟨fun z => (h4.1 z).imp fun e h' => ⟨_, hg, .nx _, run_seq (run_for ht h1) h3, h'⟩, fun z => (h4.2 z).imp fun e h' => ⟨_, hg, .nx _, run_seq (run_for ht h1) h3, h'⟩⟩
theorem any_loop {gi : TG} {ti : TS} {ws : List P2} {Pv : P2 → Bool} {mkE : Sl → Sl → Es} (hg : ∀ v x y, EvG C gi (dP v) (mkE x y) (mkE (.p (dP v)) y)) (B : ∀ v y, ∃ z, Run C ti (mkE (.p (dP v)) y) (if Pv v = true then .rt (.bl true) (mkE (.p (dP v)) z) else .nx (mkE (.p (dP v)) z))) :
    ∀ x y, ∃ e2, LoopR C gi ti (ws.map dP) (mkE x y) (if (ws.any Pv) = true then .rt (.bl true) e2 else .nx e2) ∧ ∃ a b, e2 = mkE a b := by
  induction ws with
  | nil => exact fun x y => ⟨_, rfl, x, y, rfl⟩
  | cons v ws ih =>
    intro x y
    obtain ⟨z, hz⟩ := B v y
    rw [List.any_cons]
    cases hv : Pv v with
    | true =>
      rw [hv] at hz
      exact ⟨_, ⟨_, hg v x y, .rt (.bl true) _, hz, rfl⟩, _, _, rfl⟩
    | false =>
      rw [hv] at hz
      obtain ⟨e2, h1, h2⟩ := ih (.p (dP v)) z
      exact ⟨e2, ⟨_, hg v x y, .nx _, hz, h1⟩, h2⟩
def tgB (K : PySem.W.Frag) (C : Addr) : TS := tSeq (tAsg (tCall (spP C r_steps) [] E0 (tCons (tVar 3) (tCons (tTup (tCons (tOp (rI0 fun i j => .int (i + j)) (tOp (rIx K) (tVar 4) (tC (.int 0))) (tVar 6)) (tCons (tOp (rI0 fun i j => .int (i + j)) (tOp (rIx K) (tVar 4) (tC (.int 1))) (tVar 6)) tNil))) (tCons (tVar 10) tNil)))) (gName 11))
  (tIfS (tAnd (tB (tNotN (tVar 11))) (tTest (tOp (rI0 fun i j => .bl (decide (i ≤ j))) (tOp (rI0 fun i j => .int (i + j)) (tVar 11) (tVar 6)) (tVar 7)))) (tRet (tC (.bl true))) tNext)
theorem encB_non (o : Option (Int × Mir)) : (encB o).isNon = decide (o = none) := by
  cases o with
  | none => rfl
  | some b => obtain ⟨n, m⟩ := b; rfl
theorem ok_tog (d : Df K mg "far_together" s_far_together) (T : Txt K mg C) (c_check_square : CallOk P w K mg base "check_square" 3 ["board", "square"] (spP C r_csq)) (c_legs : CallOk P w K mg base "legs" 4 ["frame", "start"] (spP C r_legs))
    (c_frame_of : CallOk P w K mg base "frame_of" 3 ["board"] (spP C r_frm)) (c_unfolded : CallOk P w K mg base "unfolded" 1 ["square", "point"] (spP C r_unf)) (c_points_of : CallOk P w K mg base "points_of" 1 ["square"] (spP C r_pts))
    (c_to_mirror : CallOk P w K mg base "to_mirror" 2 ["frame", "place"] (spP C r_tom)) (c_steps_to : CallOk P w K mg base "steps_to" 1 ["frame", "place", "goal"] (spP C r_steps)) (c_thread_class : CallOk P w K mg base "thread_class" 1 ["frame", "place"] (spP C r_cls)) :
    CallOk P w K mg base "far_together" 5 ["board", "one", "other"] (spP C r_tog) := by
  refine .mk' d (fun f fd F => fn_pure F sc_far_together (fun ds d h => by cases h <;> rfl) fun cdv A outer s0 H E ds d hr h => ?_) (fun _ _ _ _ _ _ us hl => match us, hl with | [_, _, _], _ => rfl)
  cases h with
  | mk w0 h0 kvs s t b k o o2 e =>
    refine ⟨_, (pss_cons (ps_expr (pe_callC c_check_square hr (by decide) rfl (pa_cons (pv 0) (pa_cons (pv 1) pa_nil))))
      (pss_cons (ps_expr (pe_callC c_check_square hr (by decide) rfl (pa_cons (pv 0) (pa_cons (pv 2) pa_nil))))
      (pss_cons (ps_set (i := 3) sc_far_together.nd rfl (Or.inl rfl) (pe_callC c_frame_of hr (by decide) rfl (pa_cons (pv 0) pa_nil)))
      (pss_cons (ps_set (i := 4) sc_far_together.nd rfl (Or.inl rfl) (pe_callC c_unfolded hr (by decide) rfl (pa_cons (pv 1) (pa_cons (pe_ix ix_seq (pe_callC c_points_of hr (by decide) rfl (pa_cons (pv 1) pa_nil)) pe_int (fun _ _ => rfl)) pa_nil))))
      (pss_cons (ps_setLc (i := 5) (own := [("point", 12)]) (g := (gName 12)) (tt := tYes) rfl sc_far_together.nd rfl rfl (sw_true rfl rfl rfl (by decide +kernel)) (pi_list (pe_callC c_points_of hr (by decide) rfl (pa_cons (pv 2) pa_nil))) (blkOk_by (own := [("point", 12)]) (N := N_far_together) (sc := defScope s_far_together) (by decide +kernel)) (fun _ _ _ _ _ => (pg_name (i := 12) sc_far_together.nd rfl (Or.inl rfl))) (fun _ _ _ _ _ => pts_nil) (fun _ _ _ _ _ => (pe_callC c_unfolded hr (by decide) rfl (pa_cons (pv 2) (pa_cons (pv 12) pa_nil)))))
      (pss_cons (ps_if (pt_cmp (pc_isN (pe_callC c_to_mirror hr (by decide) rfl (pa_cons (pv 3) (pa_cons (pv 4) pa_nil))))) (pss_one (ps_ret (pe_and (pe_cmp (pc_isN (pe_callC c_to_mirror hr (by decide) rfl (pa_cons (pv 3) (pa_cons (pe_ix ix_seq (pv 5) pe_int (fun _ _ => rfl)) pa_nil))))) (pe_one (pe_cmpR op_eq (pe_callC c_thread_class hr (by decide) rfl (pa_cons (pv 3) (pa_cons (pv 4) pa_nil))) (pe_callC c_thread_class hr (by decide) rfl (pa_cons (pv 3) (pa_cons (pe_ix ix_seq (pv 5) pe_int (fun _ _ => rfl)) pa_nil))) (nomark _)))))) pss_nil)
      (pss_cons (ps_set (i := 6) sc_far_together.nd rfl (Or.inl rfl) pe_int)
      (pss_cons (ps_for PassesOwn.never rfl (pi_list (pe_callC c_legs hr (by decide) rfl (pa_cons (pv 3) (pa_cons (pv 4) pa_nil)))) (pg_tup rfl (pgs_cons (pg_name (i := 7) sc_far_together.nd rfl (Or.inl rfl)) (pgs_cons (pg_name (i := 8) sc_far_together.nd rfl (Or.inl rfl)) (pgs_cons (pg_name (i := 9) sc_far_together.nd rfl (Or.inl rfl)) pgs_nil))))
      (pss_cons (ps_for PassesOwn.never rfl (pi_list (pv 5)) (pg_name (i := 10) sc_far_together.nd rfl (Or.inl rfl))
      (pss_cons (ps_set (i := 11) sc_far_together.nd rfl (Or.inl rfl) (pe_callC c_steps_to hr (by decide) rfl (pa_cons (pv 3) (pa_cons (pe_tup (pa_cons (pe_op op_add (pe_ix ix_seq (pv 4) pe_int (fun _ _ => rfl)) (pv 6)) (pa_cons (pe_op op_add (pe_ix ix_seq (pv 4) pe_int (fun _ _ => rfl)) (pv 6)) pa_nil))) (pa_cons (pv 10) pa_nil)))))
      (pss_one (ps_if (PW.pt (pw_and (pt_cmp (pc_notN (pv 11))) (pw_and1 (pt_cmpR op_le (pe_op op_add (pv 11) (pv 6)) (pv 7) (nomark _))))) (pss_one (ps_ret pe_bl)) pss_nil))))
      (pss_one (ps_par rfl sc_far_together.nd (i := 4) (j := 6) rfl rfl (by decide) rfl rfl (pa_cons (pv 8) (pa_cons pe_int pa_nil)) (by rfl)))))
      (pss_one (ps_ret pe_bl)))))))))), ?_⟩
    have S := k.frW
    have hg : 0 < (frameOf w0 h0 (mirs kvs)).g := S.ok.g0
    generalize hF : frameOf w0 h0 (mirs kvs) = F at e S hg
    have c_fr : r_frm [.brd w0 h0 kvs] (encF F) := by rw [← hF]; exact .mk _ _ _ k
    walk_at "drop"
    walk_at "drop"
    refine rr_seq (run_asg (d := encF F) (ev_call (ds := [.brd w0 h0 kvs]) (by walk_at "ev") c_fr) (by walk_at "tgt")) ?_
    refine rr_seq (run_asg (d := dP (unf s (pts s).1)) (ev_call (ds := [dP s, dP (pts s).1]) (ea_cons (ev_var rfl) (ea_cons (ev_ix (ev_call (ea_cons (ev_var rfl) ea_nil) (r_pts.mk s.1 s.2)) ev_cI rfl rfl) ea_nil)) (r_unf.mk s.1 s.2 (pts s).1.1 (pts s).1.2)) (by walk_at "tgt")) ?_
    have hno : NoAt [.p (.brd w0 h0 kvs), .p (dP s), .p (dP t), .p (encF F), .p (dP (unf s (pts s).1)), .no, .no, .no, .no, .no, .no, .no, .no] [12] := no1 rfl
    refine rr_seq (run_asg (d := .lst [dP (unf t (pts t).1), dP (unf t (pts t).2)]) (ev_lc (xs := [dP (pts t).1, dP (pts t).2]) (e1 := [.p (.brd w0 h0 kvs), .p (dP s), .p (dP t), .p (encF F), .p (dP (unf s (pts s).1)), .no, .no, .no, .no, .no, .no, .no, .no])
      (e2 := [.p (.brd w0 h0 kvs), .p (dP s), .p (dP t), .p (encF F), .p (dP (unf s (pts s).1)), .no, .no, .no, .no, .no, .no, .no, .no]) (ev_call (ds := [dP t]) (ea_cons (ev_var rfl) ea_nil) (r_pts.mk t.1 t.2)) hno
      (lc_cons1 (by decide) (ev_call (ds := [dP t, dP (pts t).1]) (ea_cons (ev_var rfl) (ea_cons (ev_var rfl) ea_nil)) (r_unf.mk t.1 t.2 _ _)) hno (lc_cons1 (by decide) (ev_call (ds := [dP t, dP (pts t).2]) (ea_cons (ev_var rfl) (ea_cons (ev_var rfl) ea_nil)) (r_unf.mk t.1 t.2 _ _)) hno lc_nil)) hno (by show 2 < sizeLine; decide)) (by walk_at "tgt")) ?_
    generalize hp : unf s (pts s).1 = p at e hno ⊢
    generalize hq : unf t (pts t).1 = q at e ⊢
    generalize hr' : unf t (pts t).2 = r at e ⊢
    cases em : toMirror F p with
    | none =>
      refine rr_take (et_is (by walk_at "ev") (show (encB (toMirror F p)).isNon = true by rw [em]; rfl)) rfl ?_
      unfold farTog at e
      rw [em] at e
      have e := Option.some.inj e
      subst e
      exact rr_eq (d' := .bl ((encB (toMirror F q)).isNon && decide (threadClass F p = threadClass F q))) (rr_of (run_ret (ev_andV (by walk_at "ev") (fun _ => by walk_at "ev")))) (by rw [encB_non])
    | some b0 =>
      obtain ⟨n0, m0⟩ := b0
      refine rr_skip (et_is (by walk_at "ev") (show (encB (toMirror F p)).isNon = false by rw [em]; rfl)) rfl ?_
      unfold farTog at e
      rw [em] at e
      obtain ⟨l, el, e⟩ := Option.map_eq_some_iff.mp e
      have hLN := legs_ln S el
      walk_at "set"
      refine rr_forB (ev_call (ds := [encF F, dP p]) (by walk_at "ev") (r_legs.mk _ S _ _ l el)) ?key (fun e => rr_ret ev_cB rfl)
      case key =>
        rw [← e]
        clear e el
        refine (?_ : ∀ (l : List Leg) (pl : P2) (first : Int) (x7 x8 x9 x10 x11 : Sl), LN l →
          RtL C _ _ (l.map encL) [.p (.brd w0 h0 kvs), .p (dP s), .p (dP t), .p (encF F), .p (dP pl), .p (.lst [dP q, dP r]), .p (.int first), x7, x8, x9, x10, x11, .no] (togLoop F [q, r] l pl first)) l p 0 .no .no .no .no .no hLN
        clear hLN
        intro l pl first x7 x8 x9 x10 x11 hLN
        have B : ∀ (pl : P2) (first many : Int) (x8 x9 : Sl) (v : P2) (x11 : Sl), ∃ y, Run C (tgB (cxOf CX0 P w K mg base N_far_together "far_together" (defScope s_far_together) f cdv A outer s0 H E).nox.K C) [.p (.brd w0 h0 kvs), .p (dP s), .p (dP t), .p (encF F), .p (dP pl), .p (.lst [dP q, dP r]), .p (.int first), .p (.int many), x8, x9, .p (dP v), x11, .no]
            (if (match stepsTo F (pl.1 + first, pl.2 + first) v with | none => false | some n => decide (n + first ≤ many)) = true then .rt (.bl true) [.p (.brd w0 h0 kvs), .p (dP s), .p (dP t), .p (encF F), .p (dP pl), .p (.lst [dP q, dP r]), .p (.int first), .p (.int many), x8, x9, .p (dP v), y, .no]
            else .nx [.p (.brd w0 h0 kvs), .p (dP s), .p (dP t), .p (encF F), .p (dP pl), .p (.lst [dP q, dP r]), .p (.int first), .p (.int many), x8, x9, .p (dP v), y, .no]) := by
          intro pl first many x8 x9 v x11
          obtain ⟨v1, v2⟩ := v
          unfold tgB
          cases es : stepsTo F (pl.1 + first, pl.2 + first) (v1, v2) with
          | none =>
            refine ⟨.p .non, ?_⟩
            show Run C _ _ (if (false : Bool) = true then _ else _)
            rw [if_neg (by decide)]
            refine run_seq (run_asg (d := .non) (ev_is (by walk_at "ev") (by rw [es]; rfl)) (by walk_at "tgt")) ?_
            exact (run_ifF (et_andF (by walk_at "evr") rfl) rfl run_next)
          | some n =>
            refine ⟨.p (.int n), ?_⟩
            refine run_seq (run_asg (d := .int n) (ev_is (by walk_at "ev") (by rw [es]; rfl)) (by walk_at "tgt")) ?_
            by_cases c : n + first ≤ many
            · show Run C _ _ (if decide (n + first ≤ many) = true then _ else _)
              rw [if_pos (decide_eq_true c)]
              exact run_ifT (et_andT (by walk_at "evr") rfl (et_is (by walk_at "ev") (decide_eq_true c))) rfl (run_ret ev_cB)
            · show Run C _ _ (if decide (n + first ≤ many) = true then _ else _)
              rw [if_neg (by rw [decide_eq_false c]; decide)]
              exact run_ifF (et_andT (by walk_at "evr") rfl (et_is (by walk_at "ev") (decide_eq_false c))) rfl run_next
        induction hLN generalizing pl first x7 x8 x9 x10 x11 with
        | one m =>
          refine rt_step (e1 := ((([.p (.brd w0 h0 kvs), .p (dP s), .p (dP t), .p (encF F), .p (dP pl), .p (.lst [dP q, dP r]), .p (.int first), x7, x8, x9, x10, x11, .no] : Es).set 7 (.p (.int m))).set 8 (.p .non)).set 9 (.p .non)) (Pst := fun e => ∃ a b, e = [.p (.brd w0 h0 kvs), .p (dP s), .p (dP t), .p (encF F), .p (dP pl), .p (.lst [dP q, dP r]), .p (.int first), .p (.int m), .p .non, .p .non, a, b, .no]) (by walk_at "tgt") (ev_var rfl)
            (any_loop (ws := [q, r]) (mkE := fun a b => [.p (.brd w0 h0 kvs), .p (dP s), .p (dP t), .p (encF F), .p (dP pl), .p (.lst [dP q, dP r]), .p (.int first), .p (.int m), .p .non, .p .non, a, b, .no]) (fun v x y => eg_name) (fun v y => B pl first m (.p .non) (.p .non) v y) x10 x11) ?_
          rintro e2 ⟨a, b, rfl⟩
          exact ⟨_, by apply run_par; walk_at "ev", rt_nil⟩
        | @cons m xo l _ ih =>
          obtain ⟨later, mir⟩ := xo
          refine rt_step (e1 := ((([.p (.brd w0 h0 kvs), .p (dP s), .p (dP t), .p (encF F), .p (dP pl), .p (.lst [dP q, dP r]), .p (.int first), x7, x8, x9, x10, x11, .no] : Es).set 7 (.p (.int m))).set 8 (.p (dP later))).set 9 (.p (encM mir))) (Pst := fun e => ∃ a b, e = [.p (.brd w0 h0 kvs), .p (dP s), .p (dP t), .p (encF F), .p (dP pl), .p (.lst [dP q, dP r]), .p (.int first), .p (.int m), .p (dP later), .p (encM mir), a, b, .no]) (by walk_at "tgt") (ev_var rfl)
            (any_loop (ws := [q, r]) (mkE := fun a b => [.p (.brd w0 h0 kvs), .p (dP s), .p (dP t), .p (encF F), .p (dP pl), .p (.lst [dP q, dP r]), .p (.int first), .p (.int m), .p (dP later), .p (encM mir), a, b, .no]) (fun v x y => eg_name) (fun v y => B pl first m (.p (dP later)) (.p (encM mir)) v y) x10 x11) ?_
          rintro e2 ⟨a, b, rfl⟩
          exact ⟨_, by walk_at "parE", ih later 1 (.p (.int m)) (.p (dP later)) (.p (encM mir)) a b⟩
end
end Sw
end
section
open PySem PySem.Spec PyProof.Rows L2 Sw Sd
local macro_rules | `(tactic| walk_at "ev") => `(tactic| first
  | with_reducible exact ev_cI
  | with_reducible exact ev_cS
  | with_reducible exact ev_cB
  | with_reducible exact ev_cN
  | with_reducible exact ea_nil
  | ((with_reducible apply ev_var); rfl)
  | ((with_reducible apply ea_cons); (· walk_at "ev"); (· walk_at "ev"))
  | ((with_reducible apply ev_add); (· walk_at "ev"); (· walk_at "ev"))
  | ((with_reducible apply ev_sub); (· walk_at "ev"); (· walk_at "ev"))
  | ((with_reducible apply ev_min2); (· walk_at "ev"); (· walk_at "ev"))
  | ((with_reducible apply ev_lt); (· walk_at "ev"); (· walk_at "ev"))
  | ((with_reducible apply ev_le); (· walk_at "ev"); (· walk_at "ev"))
  | ((with_reducible apply ev_gt); (· walk_at "ev"); (· walk_at "ev"))
  | ((with_reducible apply ev_ge); (· walk_at "ev"); (· walk_at "ev"))
  | ((with_reducible apply ev_eqI); (· walk_at "ev"); (· walk_at "ev"))
  | ((with_reducible apply ev_eqS); (· walk_at "ev"); (· walk_at "ev"))
  | ((with_reducible apply ev_eqB); (· walk_at "ev"); (· walk_at "ev"))
  | ((with_reducible apply ev_neI); (· walk_at "ev"); (· walk_at "ev"))
  | ((with_reducible apply ev_neg); (· walk_at "ev"))
  | ((with_reducible apply ev_isN); (· walk_at "ev"))
  | ((with_reducible apply ev_notN); (· walk_at "ev"))
  | ((with_reducible apply et_test); (· walk_at "ev"))
  | ((with_reducible apply et_B); (· walk_at "ev"))
  | ((with_reducible apply et_not); (· walk_at "ev"))
  | ((with_reducible apply ev_tup); (· walk_at "ev"); (· exact Nat.le_of_ble_eq_true rfl))
  | ((with_reducible apply ev_lst); (· walk_at "ev"); (· exact Nat.le_of_ble_eq_true rfl))
  | ((with_reducible apply ev_ix); (· walk_at "ev"); (· walk_at "ev"); (· rfl); (· rfl))
  | ((with_reducible apply ev_mulS); (· walk_at "ev"); (· walk_at "ev"); (· first | exact .inl ⟨by decide, by decide⟩ | exact .inr ⟨by decide, by decide⟩))
  | ((with_reducible apply ev_mulW); (· walk_at "ev"); (· walk_at "ev"); (· walk_at "sd"))
  | ((with_reducible apply ev_mod); (· walk_at "ev"); (· walk_at "ev"); (· walk_at "sd"))
  | ((with_reducible apply ev_div); (· walk_at "ev"); (· walk_at "ev"); (· walk_at "sd"))
  | ((with_reducible apply ev_prop); (· walk_at "ev"); (· walk_at "pr"))
  | ((with_reducible apply ev_chain); (· walk_at "ev"); (· walk_at "ev"); (· walk_at "ev"); (· exact r2_cmp); (· exact r2_cmp))
  | ((with_reducible apply ev_call); (· walk_at "ev"); (· walk_at "rel")))
local macro_rules | `(tactic| walk_at "sd") => `(tactic| first | assumption | decide | omega)
local macro_rules | `(tactic| walk_at "ret") => `(tactic| (apply rr_ret; (· walk_at "ev"); (try rfl)))
local macro_rules | `(tactic| walk_at "asg") => `(tactic| (apply run_asg; (· walk_at "ev"); (· walk_at "tgt")))
local macro_rules | `(tactic| walk_at "tgt") => `(tactic| first
  | with_reducible exact eg_name
  | ((apply eg_tup); (· rfl); (· walk_at "tgt"))
  | with_reducible exact egs_nil
  | ((with_reducible apply egs_cons); (· walk_at "tgt"); (· walk_at "tgt")))
local macro_rules | `(tactic| walk_at "set") => `(tactic| (apply rr_seq; (· walk_at "asg")))
local macro_rules | `(tactic| walk_at "par") => `(tactic| (apply rr_seq; (· apply run_par; walk_at "ev")))
local macro_rules | `(tactic| walk_at "asgE") => `(tactic| (apply run_eq; (· walk_at "asg"); (· rfl)))
local macro_rules | `(tactic| walk_at "parE") => `(tactic| (apply run_eq; (· apply run_par; walk_at "ev"); (· rfl)))
local macro_rules | `(tactic| walk_at "evr") => `(tactic| first | (apply et_is; (· walk_at "ev"); (· rfl)) | (apply ev_is; (· walk_at "ev"); (· rfl)))
local macro_rules | `(tactic| walk_at "drop") => `(tactic| (apply rr_seq; (· apply run_drop; walk_at "ev")))

namespace Sw
open Sd
local macro_rules | `(tactic| walk_at "rel") => `(tactic| first
  | exact r_loc.mk _ _ _ _ (by assumption) (by assumption)
  | exact r_csq.mk _ _ _ _ (by assumption)
  | exact r_cway.mk _ _ _ _ _ (by assumption) (by assumption)
  | exact r_frm.mk _ _ _ (by assumption)
  | exact r_legs.mk _ (by assumption) _ _ _ (by assumption)
  | exact r_str.mk _ _ _ _ _ _ (by assumption) (by assumption) (by assumption) (by assumption)
  | exact r_flen.mk _ _ _ _ _ (by assumption) (by assumption) (by assumption)
  | exact r_steps.mk3 _ (by assumption) _ _ _ _ _
  | exact r_steps.mk2 _ (by assumption) _ _ _ _
  | exact r_tom.mk _ (by assumption) _ _
  | exact r_from.mk _ (by assumption) _ _ _ _ (by assumption)
  | exact r_behind.mk _ _ _ _
  | exact r_gcd.mk _ _ (by assumption) (by assumption) (by assumption) (by assumption)
  | exact r_cls.mk _ _ _ (by assumption)
  | exact r_fsq.mk _ _ (by assumption)
  | exact r_fpt.mk _ _ (by assumption)
  | exact r_pts.mk _ _
  | exact r_unf.mk _ _ _ _)
local macro_rules | `(tactic| walk_at "pr") => `(tactic| first
  | exact r_w.mk _ _ _
  | exact r_h.mk _ _ _
  | exact r_mirs.mk _ _ _ (by assumption))

inductive r_cnt : List D → D → Prop where
  | mk (w h : Int) (kvs : List ((Int × Int) × Str)) (n : Int) (k : KvOk w h kvs) (e : farCount (frameOf w h (mirs kvs)) = some n) : r_cnt [.brd w h kvs] (.int n)
def seenV (l : List P2) : List ((Int × Int) × V) := l.map fun p => (p, V.bl true)
theorem seen_val (l : List P2) (q : P2) : (valV (seenV l) q).isSome = decide (q ∈ l) := by
  unfold seenV
  induction l with
  | nil => rfl
  | cons a l ih =>
    rw [List.map_cons]
    unfold valV at ih ⊢
    by_cases c : a = q
    · subst c
      simp
    · rw [List.find?_cons_of_neg (by simpa using c), ih]
      simp only [List.mem_cons]
      exact decide_eq_decide.mpr ⟨.inr, fun z => z.elim (fun e => (c e.symm).elim) id⟩
theorem seen_put {l : List P2} {q : P2} (h : q ∉ l) : putK (seenV l) q (V.bl true) = seenV (l ++ [q]) := by
  have e : (seenV l).any (fun kv => decide (kv.1 = q)) = false := by
    unfold seenV
    rw [List.any_map, List.any_eq_false]
    intro x hx
    simp only [Function.comp, decide_eq_true_eq]
    intro z
    exact h (z ▸ hx)
  unfold putK
  rw [e]
  unfold seenV
  simp
theorem add_eq (l : List Int) (c : Int) : addK l c = addNew l c := rfl
theorem add_len (l : List Int) (c : Int) : (addNew l c).length ≤ l.length + 1 := by
  unfold addNew
  split
  · omega
  · rw [List.length_append, List.length_singleton]; omega
def cyB (K : PySem.W.Frag) (C : Addr) : TS := tSeq (sDPut (tVar 5) (tVar 10) (tC (.bl true))) (tSeq (tAsg (tCall (spP C r_from) [] E0 (tCons (tVar 1) (tCons (tVar 10) tNil))) (gTup K 2 (gCons (gName 11) (gCons (gName 12) gNil))))
  (tSeq (tAsg (tCall (spP C r_behind) [] E0 (tCons (tVar 10) (tCons (tVar 11) (tCons (tOp (rIx K) (tVar 12) (tC (.int 2))) tNil)))) (gTup K 2 (gCons (gName 7) (gCons (gName 8) gNil))))
  (tAsg (tTup (tCons (tOp (rI (fun _ j => 0 < j) fun i j => .int (i % j)) (tVar 7) (tVar 2)) (tCons (tOp (rI (fun _ j => 0 < j) fun i j => .int (i % j)) (tVar 8) (tVar 3)) tNil))) (gName 10))))
theorem rr_frT {t : TS} {es : Es} {i : Nat} {C : Addr} {kvs : List ((Int × Int) × Str)} {d : D} (hi : es[i]? = some (.oT (kvs.map fun q => (q.1, V.str q.2)))) (k : RunR C t (es.set i (.p (.dic kvs))) d) : RunR C t es d := k.elim fun e2 k => ⟨e2, run_frT hi k⟩
theorem small_line {n : Nat} (h : n ≤ 100000) : n < sizeLine := Nat.lt_of_le_of_lt h (by decide)
section
variable {P : Program} {w : World} {K : PySem.W.Frag} {mg : Str → Option Value} {base : Heap} {C : Addr}
theorem ok_cnt (d : Df K mg "far_count" s_far_count) (T : Txt K mg C) (c_frame_of : CallOk P w K mg base "frame_of" 3 ["board"] (spP C r_frm)) (c_thread_class : CallOk P w K mg base "thread_class" 1 ["frame", "place"] (spP C r_cls))
    (c_from_mirror : CallOk P w K mg base "from_mirror" 3 ["frame", "place"] (spP C r_from)) (c_behind_mirror : CallOk P w K mg base "behind_mirror" 1 ["place", "steps", "kind"] (spP C r_behind)) :
    CallOk P w K mg base "far_count" 4 ["board"] (spP C r_cnt) := by
  refine .mk' d (fun f fd F => fn_pure F sc_far_count (fun ds d h => by cases h <;> rfl) fun cdv A outer s0 H E ds d hr h => ?_) (fun _ _ _ _ _ _ us hl => match us, hl with | [_], _ => rfl)
  cases h with
  | mk w0 h0 kvs n k e =>
    refine ⟨_, (pss_cons (ps_set (i := 1) sc_far_count.nd rfl (Or.inl rfl) (pe_callC c_frame_of hr (by decide) rfl (pa_cons (pv 0) pa_nil)))
      (pss_cons (ps_asg (pe_slice sl_tup (pv 1) po_none (po_some pe_int)) (pg_tup rfl (pgs_cons (pg_name (i := 2) sc_far_count.nd rfl (Or.inl rfl)) (pgs_cons (pg_name (i := 3) sc_far_count.nd rfl (Or.inl rfl)) pgs_nil))))
      (pss_cons (ps_set (i := 4) sc_far_count.nd rfl (Or.inl rfl) pe_dnewK)
      (pss_cons (ps_set (i := 5) sc_far_count.nd rfl (Or.inl rfl) pe_dnewT)
      (pss_cons (ps_set (i := 6) sc_far_count.nd rfl (Or.inl rfl) pe_int)
      (pss_cons (ps_for PassesOwn.never rfl (pi_list (pe_ix ix_seq (pv 1) pe_int (fun _ _ => rfl))) (pg_tup rfl (pgs_cons (pg_name (i := 7) sc_far_count.nd rfl (Or.inl rfl)) (pgs_cons (pg_name (i := 8) sc_far_count.nd rfl (Or.inl rfl)) (pgs_cons (pg_name (i := 9) sc_far_count.nd rfl (Or.inl rfl)) pgs_nil))))
      (pss_cons (ps_dput (hu_of hr) (pv 4) (pe_callC c_thread_class hr (by decide) rfl (pa_cons (pv 1) (pa_cons (pe_tup (pa_cons (pv 7) (pa_cons (pv 8) pa_nil))) pa_nil))) pe_bl rfl)
      (pss_cons (ps_set (i := 10) sc_far_count.nd rfl (Or.inl rfl) (pe_tup (pa_cons (pe_op op_mod (pv 7) (pv 2)) (pa_cons (pe_op op_mod (pv 8) (pv 3)) pa_nil))))
      (pss_cons (ps_if (pt_cmp (pc_dnotin (hu_of hr) (pv 10) (pv 5))) (pss_one (ps_aug (i := 6) sc_far_count.nd rfl (Or.inl rfl) pe_int ip_add)) pss_nil)
      (pss_one (ps_while PassesOwn.never (pt_cmp (pc_dnotin (hu_of hr) (pv 10) (pv 5)))
      (pss_cons (ps_dput (hu_of hr) (pv 5) (pv 10) pe_bl rfl)
      (pss_cons (ps_asg (pe_callC c_from_mirror hr (by decide) rfl (pa_cons (pv 1) (pa_cons (pv 10) pa_nil))) (pg_tup rfl (pgs_cons (pg_name (i := 11) sc_far_count.nd rfl (Or.inl rfl)) (pgs_cons (pg_name (i := 12) sc_far_count.nd rfl (Or.inl rfl)) pgs_nil))))
      (pss_cons (ps_asg (pe_callC c_behind_mirror hr (by decide) rfl (pa_cons (pv 10) (pa_cons (pv 11) (pa_cons (pe_ix ix_seq (pv 12) pe_int (fun _ _ => rfl)) pa_nil)))) (pg_tup rfl (pgs_cons (pg_name (i := 7) sc_far_count.nd rfl (Or.inl rfl)) (pgs_cons (pg_name (i := 8) sc_far_count.nd rfl (Or.inl rfl)) pgs_nil))))
      (pss_one (ps_set (i := 10) sc_far_count.nd rfl (Or.inl rfl) (pe_tup (pa_cons (pe_op op_mod (pv 7) (pv 2)) (pa_cons (pe_op op_mod (pv 8) (pv 3)) pa_nil))))))))))))))
      (pss_one (ps_ret (pe_op op_add (pe_op op_sub (pe_op op_fdivW (pe_ix ix_seq (pv 1) pe_int (fun _ _ => rfl)) pe_int) (pe_callB call_lenD rfl T.b_len PySem.boot_len (pa_cons (pv 4) pa_nil))) (pe_op op_fdivW (pv 6) pe_int)))))))))), ?_⟩
    have S := k.frW
    have hg : 0 < (frameOf w0 h0 (mirs kvs)).g := S.ok.g0
    generalize hF : frameOf w0 h0 (mirs kvs) = F at e S hg
    have c_fr : r_frm [.brd w0 h0 kvs] (encF F) := by rw [← hF]; exact .mk _ _ _ k
    have hA := S.A0
    have hD := S.D0
    have hDb := S.Db
    have gl := S.gl
    have gD : F.g ≤ F.D := Int.le_of_dvd hD S.ok.gb
    refine rr_seq (run_asg (d := encF F) (ev_call (ds := [.brd w0 h0 kvs]) (by walk_at "ev") c_fr) (by walk_at "tgt")) ?_
    refine rr_seq (run_asg (d := .tup [.int F.A, .int F.D]) (ev_is (ev_slT (n := 2) (ev_var rfl) (Nat.lt_of_sub_eq_succ rfl)) rfl) (by walk_at "tgt")) ?_
    refine rr_seq run_newI ?_
    refine rr_seq run_newT ?_
    walk_at "set"
    unfold farCount at e
    obtain ⟨sF, eF, e⟩ := Option.map_eq_some_iff.mp e
    refine rr_for (xs := F.goals.map encG) (Pst := fun e => ∃ x7 x8 x9 x10 x11 x12, e = [.p (.brd w0 h0 kvs), .p (encF F), .p (.int F.A), .p (.int F.D), .oI sF.met, .oT (seenV sF.seen), .p (.int sF.dir), x7, x8, x9, x10, x11, x12]) (by walk_at "ev") ?loop ?after
    case after =>
      rintro e' ⟨x7, x8, x9, x10, x11, x12, rfl⟩
      have d1 : CDivW F.g 4 := small_div (b := 120) (by decide) (by decide)
      have d2 : CDivW sF.dir 2 := small_div (b := 120) (by decide) (by decide)
      exact rr_ret (ev_add (ev_sub (ev_div (by walk_at "ev") ev_cI d1) (ev_lenI rfl)) (ev_div (by walk_at "ev") ev_cI d2)) (by rw [← e])
    case loop =>
      refine (?_ : ∀ (l : List (P2 × Mir)) (s : Cnt) (x7 x8 x9 x10 x11 x12 : Sl), s.met.length + l.length ≤ 1000 → s.seen.length + l.length * (F.goals.length + 1) ≤ 20000 → cntAll F (F.goals.length + 1) s l = some sF →
        ∃ e, LoopR C _ _ (l.map encG) [.p (.brd w0 h0 kvs), .p (encF F), .p (.int F.A), .p (.int F.D), .oI s.met, .oT (seenV s.seen), .p (.int s.dir), x7, x8, x9, x10, x11, x12] (.nx e) ∧
          ∃ x7 x8 x9 x10 x11 x12, e = [.p (.brd w0 h0 kvs), .p (encF F), .p (.int F.A), .p (.int F.D), .oI sF.met, .oT (seenV sF.seen), .p (.int sF.dir), x7, x8, x9, x10, x11, x12]) F.goals ⟨[], [], 0⟩ .no .no .no .no .no .no (by show 0 + _ ≤ 1000; omega)
          (by
            have : F.goals.length * (F.goals.length + 1) ≤ 100 * 101 := Nat.mul_le_mul gl (by omega)
            show 0 + _ ≤ 20000
            omega) eF
      clear eF e
      intro l
      induction l with
      | nil =>
        intro s x7 x8 x9 x10 x11 x12 _ _ e
        cases e
        exact ⟨_, rfl, _, _, _, _, _, _, rfl⟩
      | cons q l ih =>
        intro s x7 x8 x9 x10 x11 x12 h1 h2 e
        obtain ⟨⟨p1, p2⟩, m⟩ := q
        rw [List.length_cons] at h1 h2
        unfold cntAll at e
        cases es : cntStep F (F.goals.length + 1) s ((p1, p2), m) with
        | none => rw [es] at e; cases e
        | some s' =>
          rw [es] at e
          have e : cntAll F (F.goals.length + 1) s' l = some sF := e
          unfold cntStep at es
          obtain ⟨seen', ec, es⟩ := Option.map_eq_some_iff.mp es
          -- the walk along one cycle
          have cy : ∀ (k : Nat) (p1 p2 : Int) (seen : List P2) (x7 x8 x9 x11 x12 : Sl) (met : List Int) (dir : Int), cyc F k (p1, p2) seen = some seen' → seen.length + k ≤ 90000 → seen'.length ≤ seen.length + k ∧
              ∃ e, WhR C (tB (tDNotIn (tVar 10) (tVar 5))) (cyB (cxOf CX0 P w K mg base N_far_count "far_count" (defScope s_far_count) f cdv A outer s0 H E).nox.K C) k [.p (.brd w0 h0 kvs), .p (encF F), .p (.int F.A), .p (.int F.D), .oI met, .oT (seenV seen), .p (.int dir), x7, x8, x9, .p (dP (p1, p2)), x11, x12] (.nx e) ∧
                ∃ x7 x8 x9 x10 x11 x12, e = [.p (.brd w0 h0 kvs), .p (encF F), .p (.int F.A), .p (.int F.D), .oI met, .oT (seenV seen'), .p (.int dir), x7, x8, x9, x10, x11, x12] := by
            intro k
            induction k with
            | zero => intro p1 p2 seen x7 x8 x9 x11 x12 met dir h _; cases h
            | succ k ih =>
              intro p1 p2 seen x7 x8 x9 x11 x12 met dir h hb
              unfold cyc at h
              by_cases c : (p1, p2) ∈ seen
              · rw [if_pos c] at h
                cases h
                exact ⟨by omega, _, .stop (et_is (et_B (ev_notinT (k1 := p1) (k2 := p2) (ev_var rfl) rfl)) (by rw [seen_val, decide_eq_true c]; rfl)), _, _, _, _, _, _, rfl⟩
              · rw [if_neg c] at h
                cases ef : fromMirror F (p1, p2) with
                | none => rw [ef] at h; cases h
                | some b =>
                  obtain ⟨nn, mm⟩ := b
                  rw [ef] at h
                  obtain ⟨b1, e, b2, b3⟩ := ih ((behind (p1, p2) nn mm.ly).1 % F.A) ((behind (p1, p2) nn mm.ly).2 % F.D) (seen ++ [(p1, p2)]) (.p (.int (behind (p1, p2) nn mm.ly).1)) (.p (.int (behind (p1, p2) nn mm.ly).2)) x9 (.p (.int nn)) (.p (encM mm)) met dir h (by rw [List.length_append, List.length_singleton]; omega)
                  rw [List.length_append, List.length_singleton] at b1
                  refine ⟨by omega, e, .step (et_is (et_B (ev_notinT (k1 := p1) (k2 := p2) (ev_var rfl) rfl)) (by rw [seen_val, decide_eq_false c]; rfl)) ?_ b2, b3⟩
                  unfold cyB
                  refine run_seq (run_putT (k1 := p1) (k2 := p2) (x := .bl true) (w := .bl true) ev_cB rfl (ev_var rfl) rfl (small_line (by unfold seenV; rw [List.length_map]; omega))) ?_
                  rw [seen_put c]
                  refine run_seq (by walk_at "asg") (run_seq (run_asg (d := dP (behind (p1, p2) nn mm.ly)) (ev_call (ds := [dP (p1, p2), .int nn, .str (ks mm.ly)]) (by walk_at "ev") (r_behind.mk _ _ _ _)) (by walk_at "tgt")) ?_)
                  walk_at "asgE"
          have hmul : (l.length + 1) * (F.goals.length + 1) = l.length * (F.goals.length + 1) + (F.goals.length + 1) := Nat.succ_mul _ _
          obtain ⟨c1, e2, c2, y7, y8, y9, y10, y11, y12, c3⟩ := cy (F.goals.length + 1) (p1 % F.A) (p2 % F.D) s.seen (.p (.int p1)) (.p (.int p2)) (.p (encM m)) x11 x12 (addNew s.met (threadClass F (p1, p2))) (if canon F (p1, p2) ∈ s.seen then s.dir else s.dir + 1) ec (by omega)
          subst c3
          have hadd := add_len s.met (threadClass F (p1, p2))
          obtain ⟨e3, i1, i2⟩ := ih s' y7 y8 y9 y10 y11 y12 (by rw [← es]; show (addNew s.met (threadClass F (p1, p2))).length + _ ≤ 1000; omega) (by rw [← es]; show seen'.length + _ ≤ 20000; omega) e
          refine ⟨e3, ⟨_, by walk_at "tgt", .nx _, ?_, i1⟩, i2⟩
          rw [← es]
          refine run_seq (run_putI (k := threadClass F (p1, p2)) (by walk_at "ev") rfl (small_line (by omega))) (run_seq (e1 := [.p (.brd w0 h0 kvs), .p (encF F), .p (.int F.A), .p (.int F.D), .oI (addNew s.met (threadClass F (p1, p2))), .oT (seenV s.seen), .p (.int s.dir), .p (.int p1), .p (.int p2), .p (encM m), .p (dP (p1 % F.A, p2 % F.D)), x11, x12]) (by walk_at "asgE")
            (run_seq (e1 := [.p (.brd w0 h0 kvs), .p (encF F), .p (.int F.A), .p (.int F.D), .oI (addNew s.met (threadClass F (p1, p2))), .oT (seenV s.seen), .p (.int (if canon F (p1, p2) ∈ s.seen then s.dir else s.dir + 1)), .p (.int p1), .p (.int p2), .p (encM m), .p (dP (p1 % F.A, p2 % F.D)), x11, x12]) ?inc (run_wh c2)))
          by_cases c : canon F (p1, p2) ∈ s.seen
          · rw [if_pos c]
            exact run_ifF (et_is (et_B (ev_notinT (k1 := p1 % F.A) (k2 := p2 % F.D) (ev_var rfl) rfl)) (by rw [seen_val, show decide ((p1 % F.A, p2 % F.D) ∈ s.seen) = true from decide_eq_true c]; rfl)) rfl run_next
          · rw [if_neg c]
            exact run_ifT (et_is (et_B (ev_notinT (k1 := p1 % F.A) (k2 := p2 % F.D) (ev_var rfl) rfl)) (by rw [seen_val, show decide ((p1 % F.A, p2 % F.D) ∈ s.seen) = false from decide_eq_false c]; rfl)) rfl (run_eq (run_aug ev_cI rfl) rfl)
end
end Sw
end
section
open PySem PySem.Spec PyProof.Rows L2 Sw Sd
local macro_rules | `(tactic| walk_at "ev") => `(tactic| first
  | with_reducible exact ev_cI
  | with_reducible exact ev_cS
  | with_reducible exact ev_cB
  | with_reducible exact ev_cN
  | with_reducible exact ea_nil
  | ((with_reducible apply ev_var); rfl)
  | ((with_reducible apply ea_cons); (· walk_at "ev"); (· walk_at "ev"))
  | ((with_reducible apply ev_add); (· walk_at "ev"); (· walk_at "ev"))
  | ((with_reducible apply ev_sub); (· walk_at "ev"); (· walk_at "ev"))
  | ((with_reducible apply ev_min2); (· walk_at "ev"); (· walk_at "ev"))
  | ((with_reducible apply ev_lt); (· walk_at "ev"); (· walk_at "ev"))
  | ((with_reducible apply ev_le); (· walk_at "ev"); (· walk_at "ev"))
  | ((with_reducible apply ev_gt); (· walk_at "ev"); (· walk_at "ev"))
  | ((with_reducible apply ev_ge); (· walk_at "ev"); (· walk_at "ev"))
  | ((with_reducible apply ev_eqI); (· walk_at "ev"); (· walk_at "ev"))
  | ((with_reducible apply ev_eqS); (· walk_at "ev"); (· walk_at "ev"))
  | ((with_reducible apply ev_eqB); (· walk_at "ev"); (· walk_at "ev"))
  | ((with_reducible apply ev_neI); (· walk_at "ev"); (· walk_at "ev"))
  | ((with_reducible apply ev_neg); (· walk_at "ev"))
  | ((with_reducible apply ev_isN); (· walk_at "ev"))
  | ((with_reducible apply ev_notN); (· walk_at "ev"))
  | ((with_reducible apply et_test); (· walk_at "ev"))
  | ((with_reducible apply et_B); (· walk_at "ev"))
  | ((with_reducible apply et_not); (· walk_at "ev"))
  | ((with_reducible apply ev_tup); (· walk_at "ev"); (· exact Nat.le_of_ble_eq_true rfl))
  | ((with_reducible apply ev_lst); (· walk_at "ev"); (· exact Nat.le_of_ble_eq_true rfl))
  | ((with_reducible apply ev_ix); (· walk_at "ev"); (· walk_at "ev"); (· rfl); (· rfl))
  | ((with_reducible apply ev_mulS); (· walk_at "ev"); (· walk_at "ev"); (· first | exact .inl ⟨by decide, by decide⟩ | exact .inr ⟨by decide, by decide⟩))
  | ((with_reducible apply ev_mulW); (· walk_at "ev"); (· walk_at "ev"); (· walk_at "sd"))
  | ((with_reducible apply ev_mod); (· walk_at "ev"); (· walk_at "ev"); (· walk_at "sd"))
  | ((with_reducible apply ev_div); (· walk_at "ev"); (· walk_at "ev"); (· walk_at "sd"))
  | ((with_reducible apply ev_prop); (· walk_at "ev"); (· walk_at "pr"))
  | ((with_reducible apply ev_chain); (· walk_at "ev"); (· walk_at "ev"); (· walk_at "ev"); (· exact r2_cmp); (· exact r2_cmp))
  | ((with_reducible apply ev_call); (· walk_at "ev"); (· walk_at "rel")))
local macro_rules | `(tactic| walk_at "sd") => `(tactic| first | assumption | decide | omega)
local macro_rules | `(tactic| walk_at "ret") => `(tactic| (apply rr_ret; (· walk_at "ev"); (try rfl)))
local macro_rules | `(tactic| walk_at "asg") => `(tactic| (apply run_asg; (· walk_at "ev"); (· walk_at "tgt")))
local macro_rules | `(tactic| walk_at "tgt") => `(tactic| first
  | with_reducible exact eg_name
  | ((apply eg_tup); (· rfl); (· walk_at "tgt"))
  | with_reducible exact egs_nil
  | ((with_reducible apply egs_cons); (· walk_at "tgt"); (· walk_at "tgt")))
local macro_rules | `(tactic| walk_at "set") => `(tactic| (apply rr_seq; (· walk_at "asg")))
local macro_rules | `(tactic| walk_at "par") => `(tactic| (apply rr_seq; (· apply run_par; walk_at "ev")))
local macro_rules | `(tactic| walk_at "asgE") => `(tactic| (apply run_eq; (· walk_at "asg"); (· rfl)))
local macro_rules | `(tactic| walk_at "parE") => `(tactic| (apply run_eq; (· apply run_par; walk_at "ev"); (· rfl)))
local macro_rules | `(tactic| walk_at "evr") => `(tactic| first | (apply et_is; (· walk_at "ev"); (· rfl)) | (apply ev_is; (· walk_at "ev"); (· rfl)))
local macro_rules | `(tactic| walk_at "drop") => `(tactic| (apply rr_seq; (· apply run_drop; walk_at "ev")))

namespace Sw
open Sd
local macro_rules | `(tactic| walk_at "rel") => `(tactic| first
  | exact r_go.mk _ _ _ _ _ _ _ (by assumption) (by assumption) (by assumption) (by assumption) (by assumption)
  | exact r_tog.mk _ _ _ _ _ _ (by assumption) (by assumption) (by assumption) (by assumption)
  | exact r_cnt.mk _ _ _ _ (by assumption) (by assumption)
  | exact r_loc.mk _ _ _ _ (by assumption) (by assumption)
  | exact r_csq.mk _ _ _ _ (by assumption)
  | exact r_cway.mk _ _ _ _ _ (by assumption) (by assumption)
  | exact r_frm.mk _ _ _ (by assumption)
  | exact r_legs.mk _ (by assumption) _ _ _ (by assumption)
  | exact r_str.mk _ _ _ _ _ _ (by assumption) (by assumption) (by assumption) (by assumption)
  | exact r_flen.mk _ _ _ _ _ (by assumption) (by assumption) (by assumption)
  | exact r_steps.mk3 _ (by assumption) _ _ _ _ _
  | exact r_steps.mk2 _ (by assumption) _ _ _ _
  | exact r_tom.mk _ (by assumption) _ _
  | exact r_from.mk _ (by assumption) _ _ _ _ (by assumption)
  | exact r_behind.mk _ _ _ _
  | exact r_gcd.mk _ _ (by assumption) (by assumption) (by assumption) (by assumption)
  | exact r_cls.mk _ _ _ (by assumption)
  | exact r_fsq.mk _ _ (by assumption)
  | exact r_fpt.mk _ _ (by assumption)
  | exact r_pts.mk _ _
  | exact r_unf.mk _ _ _ _)
local macro_rules | `(tactic| walk_at "pr") => `(tactic| first
  | exact r_w.mk _ _ _
  | exact r_h.mk _ _ _
  | exact r_mirs.mk _ _ _ (by assumption))

/-! ### where members stand -/
structure DfP (K : PySem.W.Frag) (C : Addr) (x qual : Str) (st : Stmt) : Prop where
  ex : ∃ p f fd, PropOf K C x p f ∧ Hk.Fn K x qual st f fd
structure DfM (K : PySem.W.Frag) (C : Addr) (x qual : Str) (st : Stmt) : Prop where
  ex : ∃ f fd, Meth K C x f ∧ Hk.Fn K x qual st f fd
structure DfI (K : PySem.W.Frag) (C : Addr) (x qual : Str) (st : Stmt) : Prop where
  ex : ∃ f fd, Mk K C f ∧ Hk.Fn K x qual st f fd
inductive r_ins : List D → D → Prop where
  | mk (w h x y : Int) (h1 : 0 < x) (h2 : x < 2 * w) (h3 : 0 < y) (h4 : y < 2 * h) (h5 : (x + y) % 2 = 1) : r_ins [.int w, .int h, .int x, .int y] (.bl true)
def encT (q : (Int × Int) × Str) : D := .tup [.int q.1.1, .int q.1.2, .str q.2]
inductive r_chk : List D → D → Prop where
  | mk (w h : Int) (kvs : List ((Int × Int) × Str)) (x y : Int) (k : Str) (h1 : 0 < x) (h2 : x < 2 * w) (h3 : 0 < y) (h4 : y < 2 * h) (h5 : (x + y) % 2 = 1) (hk : k = "-" ∨ k = "|") (hn : (x, y) ∉ kvs.map (·.1)) :
    r_chk [.int w, .int h, .dic kvs, .tup [.int x, .int y, .str k]] .non
inductive r_kof : List D → D → Prop where
  | mk (w h : Int) (kvs : List ((Int × Int) × Str)) (k : KvOk w h kvs) : r_kof [.int w, .int h, .lst (kvs.map encT)] (.dic kvs)
inductive r_oth : List D → D → Prop where
  | mk (ly : Bool) : r_oth [.str (ks ly)] (.str (ks (!ly)))
/-- the ways, as turns -/
inductive WayT : Str → Tn → Prop
  | same : WayT "same" ⟨false, false, false⟩
  | quarter : WayT "quarter" ⟨false, true, true⟩
  | half : WayT "half" ⟨true, true, false⟩
  | back : WayT "back" ⟨true, false, true⟩
  | flip : WayT "flip" ⟨false, true, false⟩
  | mirror : WayT "mirror" ⟨true, false, false⟩
  | cross : WayT "cross" ⟨false, false, true⟩
  | anti : WayT "anti" ⟨true, true, true⟩
inductive r_mvp : List D → D → Prop where
  | mk (way : Str) (t : Tn) (w h x y : Int) (ht : WayT way t) : r_mvp [.str way, .int w, .int h, .tup [.int x, .int y]] (dP (mpt t w h (x, y)))
section
variable {P : Program} {w : World} {K : PySem.W.Frag} {mg : Str → Option Value} {base : Heap} {C : Addr}
theorem PropOk.mk' {x qual : Str} {st : Stmt} {k : Nat} {sp : Sp} (d : DfP K C x qual st) (h : ∀ f fd, Hk.Fn K x qual st f fd → FnOk P w K mg base CX0 k f fd ["self"] sp)
    (b : ∀ (kV doc pm : Value) (an : Option Addr) (cdv ct : Value) (us : List Value), us.length = (["self"] : List Str).length → bindArgs (PySem.W.fnOf x qual (defArgs st) (defBody st) (defScope st) .none kV doc pm an cdv ct) ⟨us, []⟩ = pure ((["self"] : List Str).zip us)) : PropOk P w K mg base C x k sp := by
  obtain ⟨p, f, fd, q, F⟩ := d.ex
  exact ⟨p, f, fd, q, h f fd F, F.bindsN b⟩
theorem MethOk.mk' {x qual : Str} {st : Stmt} {k : Nat} {ps : List Str} {sp : Sp} (d : DfM K C x qual st) (h : ∀ f fd, Hk.Fn K x qual st f fd → FnOk P w K mg base CX0 k f fd ps sp)
    (b : ∀ (kV doc pm : Value) (an : Option Addr) (cdv ct : Value) (us : List Value), us.length = ps.length → bindArgs (PySem.W.fnOf x qual (defArgs st) (defBody st) (defScope st) .none kV doc pm an cdv ct) ⟨us, []⟩ = pure (ps.zip us)) : MethOk P w K mg base C x k ps sp := by
  obtain ⟨f, fd, q, F⟩ := d.ex
  exact ⟨f, fd, q, h f fd F, F.bindsN b⟩
theorem MakeOk.mk' {x qual : Str} {st : Stmt} {k : Nat} {ps : List Str} {sp : Sp} (d : DfI K C x qual st) (h : ∀ f fd, Hk.Fn K x qual st f fd → FnOk P w K mg base CX0 k f fd ps sp)
    (b : ∀ (kV doc pm : Value) (an : Option Addr) (cdv ct : Value) (us : List Value), us.length = ps.length → bindArgs (PySem.W.fnOf x qual (defArgs st) (defBody st) (defScope st) .none kV doc pm an cdv ct) ⟨us, []⟩ = pure (ps.zip us)) : MakeOk P w K mg base C k ps sp := by
  obtain ⟨f, fd, q, F⟩ := d.ex
  exact ⟨f, fd, q, h f fd F, F.bindsN b⟩
/-! ### width, height -/
theorem ok_width (d : DfP K C "width" "Board.width" s_Board_width) (T : Txt K mg C) : PropOk P w K mg base C "width" 1 (spP C r_w) := by
  refine .mk' d (fun f fd F => fn_pure F sc_Board_width (fun ds d h => by cases h <;> rfl) fun cdv A outer s0 H E ds d hr h => ?_) (fun _ _ _ _ _ _ us hl => match us, hl with | [_], _ => rfl)
  cases h with
  | mk w0 h0 kvs => exact ⟨_, (pss_one (ps_ret (pe_fld (pv 0) rfl))), rr_ret (ev_wide T.cl T.nW (ev_var rfl)) rfl⟩
theorem ok_height (d : DfP K C "height" "Board.height" s_Board_height) (T : Txt K mg C) : PropOk P w K mg base C "height" 1 (spP C r_h) := by
  refine .mk' d (fun f fd F => fn_pure F sc_Board_height (fun ds d h => by cases h <;> rfl) fun cdv A outer s0 H E ds d hr h => ?_) (fun _ _ _ _ _ _ us hl => match us, hl with | [_], _ => rfl)
  cases h with
  | mk w0 h0 kvs => exact ⟨_, (pss_one (ps_ret (pe_fld (pv 0) rfl))), rr_ret (ev_high T.cl T.nH (ev_var rfl)) rfl⟩
/-! ### is_inside -/
theorem ok_ins (d : Df K mg "is_inside" s_is_inside) : CallOk P w K mg base "is_inside" 1 ["width", "height", "x", "y"] (spP C r_ins) := by
  refine .mk' d (fun f fd F => fn_pure F sc_is_inside (fun ds d h => by cases h <;> rfl) fun cdv A outer s0 H E ds d hr h => ?_) (fun _ _ _ _ _ _ us hl => match us, hl with | [_, _, _, _], _ => rfl)
  cases h with
  | mk w0 h0 x y h1 h2 h3 h4 h5 =>
    refine ⟨_, (pss_one (ps_ret (pe_and (pe_chain op_lt op_lt pe_int (pv 2) (pe_op op_mul pe_int (pv 0))) (pe_and (pe_chain op_lt op_lt pe_int (pv 3) (pe_op op_mul pe_int (pv 1))) (pe_one (pe_cmpR op_eq (pe_op op_mod (pe_op op_add (pv 2) (pv 3)) pe_int) pe_int (nomark _))))))), ?_⟩
    refine rr_ret (ev_andT (by walk_at "ev") (by simp only [Bool.and_eq_true, decide_eq_true_eq]; exact ⟨h1, h2⟩) (ev_andT (by walk_at "ev") (by simp only [Bool.and_eq_true, decide_eq_true_eq]; exact ⟨h3, h4⟩) (by walk_at "ev"))) ?_
    rw [decide_eq_true h5]
/-! ### other_kind, moved_place -/
theorem ok_oth (d : Df K mg "other_kind" s_other_kind) : CallOk P w K mg base "other_kind" 1 ["kind"] (spP C r_oth) := by
  refine .mk' d (fun f fd F => fn_pure F sc_other_kind (fun ds d h => by cases h <;> rfl) fun cdv A outer s0 H E ds d hr h => ?_) (fun _ _ _ _ _ _ us hl => match us, hl with | [_], _ => rfl)
  cases h with
  | mk ly =>
    refine ⟨_, (pss_cons (ps_if (pt_cmpR op_eq (pv 0) pe_str (nomark _)) (pss_one (ps_ret pe_str)) pss_nil)
      (pss_one (ps_ret pe_str))), ?_⟩
    cases ly
    · refine rr_skip (by walk_at "ev") (by decide +kernel) ?_
      walk_at "ret"
    · refine rr_take (by walk_at "ev") (by decide +kernel) ?_
      walk_at "ret"
theorem ok_mvp (d : Df K mg "moved_place" s_moved_place) : CallOk P w K mg base "moved_place" 1 ["way", "width", "height", "place"] (spP C r_mvp) := by
  refine .mk' d (fun f fd F => fn_pure F sc_moved_place (fun ds d h => by cases h <;> rfl) fun cdv A outer s0 H E ds d hr h => ?_) (fun _ _ _ _ _ _ us hl => match us, hl with | [_, _, _, _], _ => rfl)
  cases h with
  | mk way t w0 h0 x y ht =>
    refine ⟨_, (pss_cons (ps_asg (pv 3) (pg_tup rfl (pgs_cons (pg_name (i := 4) sc_moved_place.nd rfl (Or.inl rfl)) (pgs_cons (pg_name (i := 5) sc_moved_place.nd rfl (Or.inl rfl)) pgs_nil))))
      (pss_cons (ps_if (pt_cmpR op_eq (pv 0) pe_str (nomark _)) (pss_one (ps_ret (pe_tup (pa_cons (pe_op op_sub (pe_op op_mul pe_int (pv 2)) (pv 5)) (pa_cons (pv 4) pa_nil))))) pss_nil)
      (pss_cons (ps_if (pt_cmpR op_eq (pv 0) pe_str (nomark _)) (pss_one (ps_ret (pe_tup (pa_cons (pe_op op_sub (pe_op op_mul pe_int (pv 1)) (pv 4)) (pa_cons (pe_op op_sub (pe_op op_mul pe_int (pv 2)) (pv 5)) pa_nil))))) pss_nil)
      (pss_cons (ps_if (pt_cmpR op_eq (pv 0) pe_str (nomark _)) (pss_one (ps_ret (pe_tup (pa_cons (pv 5) (pa_cons (pe_op op_sub (pe_op op_mul pe_int (pv 1)) (pv 4)) pa_nil))))) pss_nil)
      (pss_cons (ps_if (pt_cmpR op_eq (pv 0) pe_str (nomark _)) (pss_one (ps_ret (pe_tup (pa_cons (pv 4) (pa_cons (pe_op op_sub (pe_op op_mul pe_int (pv 2)) (pv 5)) pa_nil))))) pss_nil)
      (pss_cons (ps_if (pt_cmpR op_eq (pv 0) pe_str (nomark _)) (pss_one (ps_ret (pe_tup (pa_cons (pe_op op_sub (pe_op op_mul pe_int (pv 1)) (pv 4)) (pa_cons (pv 5) pa_nil))))) pss_nil)
      (pss_cons (ps_if (pt_cmpR op_eq (pv 0) pe_str (nomark _)) (pss_one (ps_ret (pe_tup (pa_cons (pv 5) (pa_cons (pv 4) pa_nil))))) pss_nil)
      (pss_cons (ps_if (pt_cmpR op_eq (pv 0) pe_str (nomark _)) (pss_one (ps_ret (pe_tup (pa_cons (pe_op op_sub (pe_op op_mul pe_int (pv 2)) (pv 5)) (pa_cons (pe_op op_sub (pe_op op_mul pe_int (pv 1)) (pv 4)) pa_nil))))) pss_nil)
      (pss_one (ps_ret (pe_tup (pa_cons (pv 4) (pa_cons (pv 5) pa_nil))))))))))))), ?_⟩
    walk_at "set"
    cases ht
    case same =>
      refine rr_skip (by walk_at "ev") (by decide +kernel) (rr_skip (by walk_at "ev") (by decide +kernel) (rr_skip (by walk_at "ev") (by decide +kernel) (rr_skip (by walk_at "ev") (by decide +kernel) (rr_skip (by walk_at "ev") (by decide +kernel) (rr_skip (by walk_at "ev") (by decide +kernel) (rr_skip (by walk_at "ev") (by decide +kernel) ?_))))))
      walk_at "ret"
    case quarter =>
      refine rr_take (by walk_at "ev") (by decide +kernel) ?_
      walk_at "ret"
    case half =>
      refine rr_skip (by walk_at "ev") (by decide +kernel) (rr_take (by walk_at "ev") (by decide +kernel) ?_)
      walk_at "ret"
    case back =>
      refine rr_skip (by walk_at "ev") (by decide +kernel) (rr_skip (by walk_at "ev") (by decide +kernel) (rr_take (by walk_at "ev") (by decide +kernel) ?_))
      walk_at "ret"
    case flip =>
      refine rr_skip (by walk_at "ev") (by decide +kernel) (rr_skip (by walk_at "ev") (by decide +kernel) (rr_skip (by walk_at "ev") (by decide +kernel) (rr_take (by walk_at "ev") (by decide +kernel) ?_)))
      walk_at "ret"
    case mirror =>
      refine rr_skip (by walk_at "ev") (by decide +kernel) (rr_skip (by walk_at "ev") (by decide +kernel) (rr_skip (by walk_at "ev") (by decide +kernel) (rr_skip (by walk_at "ev") (by decide +kernel) (rr_take (by walk_at "ev") (by decide +kernel) ?_))))
      walk_at "ret"
    case cross =>
      refine rr_skip (by walk_at "ev") (by decide +kernel) (rr_skip (by walk_at "ev") (by decide +kernel) (rr_skip (by walk_at "ev") (by decide +kernel) (rr_skip (by walk_at "ev") (by decide +kernel) (rr_skip (by walk_at "ev") (by decide +kernel) (rr_take (by walk_at "ev") (by decide +kernel) ?_)))))
      walk_at "ret"
    case anti =>
      refine rr_skip (by walk_at "ev") (by decide +kernel) (rr_skip (by walk_at "ev") (by decide +kernel) (rr_skip (by walk_at "ev") (by decide +kernel) (rr_skip (by walk_at "ev") (by decide +kernel) (rr_skip (by walk_at "ev") (by decide +kernel) (rr_skip (by walk_at "ev") (by decide +kernel) (rr_take (by walk_at "ev") (by decide +kernel) ?_))))))
      walk_at "ret"
end
end Sw
end
section
open PySem PySem.Spec PyProof.Rows L2 Sw Sd
local macro_rules | `(tactic| walk_at "ev") => `(tactic| first
  | with_reducible exact ev_cI
  | with_reducible exact ev_cS
  | with_reducible exact ev_cB
  | with_reducible exact ev_cN
  | with_reducible exact ea_nil
  | ((with_reducible apply ev_var); rfl)
  | ((with_reducible apply ea_cons); (· walk_at "ev"); (· walk_at "ev"))
  | ((with_reducible apply ev_add); (· walk_at "ev"); (· walk_at "ev"))
  | ((with_reducible apply ev_sub); (· walk_at "ev"); (· walk_at "ev"))
  | ((with_reducible apply ev_min2); (· walk_at "ev"); (· walk_at "ev"))
  | ((with_reducible apply ev_lt); (· walk_at "ev"); (· walk_at "ev"))
  | ((with_reducible apply ev_le); (· walk_at "ev"); (· walk_at "ev"))
  | ((with_reducible apply ev_gt); (· walk_at "ev"); (· walk_at "ev"))
  | ((with_reducible apply ev_ge); (· walk_at "ev"); (· walk_at "ev"))
  | ((with_reducible apply ev_eqI); (· walk_at "ev"); (· walk_at "ev"))
  | ((with_reducible apply ev_eqS); (· walk_at "ev"); (· walk_at "ev"))
  | ((with_reducible apply ev_eqB); (· walk_at "ev"); (· walk_at "ev"))
  | ((with_reducible apply ev_neI); (· walk_at "ev"); (· walk_at "ev"))
  | ((with_reducible apply ev_neg); (· walk_at "ev"))
  | ((with_reducible apply ev_isN); (· walk_at "ev"))
  | ((with_reducible apply ev_notN); (· walk_at "ev"))
  | ((with_reducible apply et_test); (· walk_at "ev"))
  | ((with_reducible apply et_B); (· walk_at "ev"))
  | ((with_reducible apply et_not); (· walk_at "ev"))
  | ((with_reducible apply ev_tup); (· walk_at "ev"); (· exact Nat.le_of_ble_eq_true rfl))
  | ((with_reducible apply ev_lst); (· walk_at "ev"); (· exact Nat.le_of_ble_eq_true rfl))
  | ((with_reducible apply ev_ix); (· walk_at "ev"); (· walk_at "ev"); (· rfl); (· rfl))
  | ((with_reducible apply ev_mulS); (· walk_at "ev"); (· walk_at "ev"); (· first | exact .inl ⟨by decide, by decide⟩ | exact .inr ⟨by decide, by decide⟩))
  | ((with_reducible apply ev_mulW); (· walk_at "ev"); (· walk_at "ev"); (· walk_at "sd"))
  | ((with_reducible apply ev_mod); (· walk_at "ev"); (· walk_at "ev"); (· walk_at "sd"))
  | ((with_reducible apply ev_div); (· walk_at "ev"); (· walk_at "ev"); (· walk_at "sd"))
  | ((with_reducible apply ev_prop); (· walk_at "ev"); (· walk_at "pr"))
  | ((with_reducible apply ev_chain); (· walk_at "ev"); (· walk_at "ev"); (· walk_at "ev"); (· exact r2_cmp); (· exact r2_cmp))
  | ((with_reducible apply ev_call); (· walk_at "ev"); (· walk_at "rel")))
local macro_rules | `(tactic| walk_at "sd") => `(tactic| first | assumption | decide | omega)
local macro_rules | `(tactic| walk_at "ret") => `(tactic| (apply rr_ret; (· walk_at "ev"); (try rfl)))
local macro_rules | `(tactic| walk_at "asg") => `(tactic| (apply run_asg; (· walk_at "ev"); (· walk_at "tgt")))
local macro_rules | `(tactic| walk_at "tgt") => `(tactic| first
  | with_reducible exact eg_name
  | ((apply eg_tup); (· rfl); (· walk_at "tgt"))
  | with_reducible exact egs_nil
  | ((with_reducible apply egs_cons); (· walk_at "tgt"); (· walk_at "tgt")))
local macro_rules | `(tactic| walk_at "set") => `(tactic| (apply rr_seq; (· walk_at "asg")))
local macro_rules | `(tactic| walk_at "par") => `(tactic| (apply rr_seq; (· apply run_par; walk_at "ev")))
local macro_rules | `(tactic| walk_at "asgE") => `(tactic| (apply run_eq; (· walk_at "asg"); (· rfl)))
local macro_rules | `(tactic| walk_at "parE") => `(tactic| (apply run_eq; (· apply run_par; walk_at "ev"); (· rfl)))
local macro_rules | `(tactic| walk_at "evr") => `(tactic| first | (apply et_is; (· walk_at "ev"); (· rfl)) | (apply ev_is; (· walk_at "ev"); (· rfl)))
local macro_rules | `(tactic| walk_at "drop") => `(tactic| (apply rr_seq; (· apply run_drop; walk_at "ev")))

namespace Sw
open Sd
local macro_rules | `(tactic| walk_at "rel") => `(tactic| first
  | exact r_go.mk _ _ _ _ _ _ _ (by assumption) (by assumption) (by assumption) (by assumption) (by assumption)
  | exact r_tog.mk _ _ _ _ _ _ (by assumption) (by assumption) (by assumption) (by assumption)
  | exact r_cnt.mk _ _ _ _ (by assumption) (by assumption)
  | exact r_loc.mk _ _ _ _ (by assumption) (by assumption)
  | exact r_csq.mk _ _ _ _ (by assumption)
  | exact r_cway.mk _ _ _ _ _ (by assumption) (by assumption)
  | exact r_frm.mk _ _ _ (by assumption)
  | exact r_legs.mk _ (by assumption) _ _ _ (by assumption)
  | exact r_str.mk _ _ _ _ _ _ (by assumption) (by assumption) (by assumption) (by assumption)
  | exact r_flen.mk _ _ _ _ _ (by assumption) (by assumption) (by assumption)
  | exact r_steps.mk3 _ (by assumption) _ _ _ _ _
  | exact r_steps.mk2 _ (by assumption) _ _ _ _
  | exact r_tom.mk _ (by assumption) _ _
  | exact r_from.mk _ (by assumption) _ _ _ _ (by assumption)
  | exact r_behind.mk _ _ _ _
  | exact r_gcd.mk _ _ (by assumption) (by assumption) (by assumption) (by assumption)
  | exact r_cls.mk _ _ _ (by assumption)
  | exact r_fsq.mk _ _ (by assumption)
  | exact r_fpt.mk _ _ (by assumption)
  | exact r_pts.mk _ _
  | exact r_unf.mk _ _ _ _)
local macro_rules | `(tactic| walk_at "pr") => `(tactic| first
  | exact r_w.mk _ _ _
  | exact r_h.mk _ _ _
  | exact r_mirs.mk _ _ _ (by assumption))

local macro_rules | `(tactic| walk_at "rel") => `(tactic| first
  | exact r_ins.mk _ _ _ _ (by assumption) (by assumption) (by assumption) (by assumption) (by assumption)
  | exact r_oth.mk _
  | exact r_mvp.mk _ _ _ _ _ _ (by assumption))
abbrev kvV (kvs : List ((Int × Int) × Str)) : List ((Int × Int) × V) := kvs.map fun q => (q.1, V.str q.2)
theorem kv_none {kvs : List ((Int × Int) × Str)} {q : Int × Int} (h : q ∉ kvs.map (·.1)) : valV (kvV kvs) q = none := by
  induction kvs with
  | nil => rfl
  | cons a l ih =>
    rw [List.map_cons, List.mem_cons, not_or] at h
    show valV ((a.1, V.str a.2) :: kvV l) q = none
    rw [valV_neg (fun e => h.1 e.symm)]
    exact ih h.2
theorem kv_put {kvs : List ((Int × Int) × Str)} {q : Int × Int} {k : Str} (h : q ∉ kvs.map (·.1)) : putK (kvV kvs) q (V.str k) = kvV (kvs ++ [(q, k)]) := by
  have e : (kvV kvs).any (fun kv => decide (kv.1 = q)) = false := by rw [valV_any, kv_none h]; rfl
  unfold putK
  rw [e]
  simp [kvV]
theorem kv_get {kvs : List ((Int × Int) × Str)} (nd : (kvs.map (·.1)).Nodup) {q : (Int × Int) × Str} (h : q ∈ kvs) : valV (kvV kvs) q.1 = some (V.str q.2) := by
  induction kvs with
  | nil => cases h
  | cons a l ih =>
    rw [List.map_cons, List.nodup_cons] at nd
    show valV ((a.1, V.str a.2) :: kvV l) q.1 = _
    rcases List.mem_cons.mp h with e | h
    · subst e; exact valV_pos rfl
    · rw [valV_neg (fun e => nd.1 (by rw [show a.1 = q.1 from e]; exact List.mem_map.mpr ⟨q, h, rfl⟩))]
      exact ih nd.2 h
section
variable {C : Addr} {K : PySem.W.Frag} {es : Es} {ta tb tc ty : TE} {i : Nat} {x y z : D}
theorem ev_dinD {kvs : List ((Int × Int) × Str)} {k1 k2 : Int} (hk : EvM C ty es (.tup [.int k1, .int k2]) es) (h0 : es[i]? = some (.p (.dic kvs))) : EvM C (tDIn ty (tVar i)) es (.bl (valV (kvV kvs) (k1, k2)).isSome) es := fun G H σ Q s q =>
  hk G H σ _ s fun v G1 H1 s1 l1 rv => by
    obtain ⟨b, rfl, hb⟩ := rv.pair
    obtain ⟨o, e, v, rfl, r⟩ := s1.ok i _ h0
    simp only [Rp] at r
    obtain ⟨a, rfl, hG⟩ := r
    refine ⟨_, e, a, _, rfl, DGet.t (kvs := kvT (kvV kvs)) (s1.gh _ _ hG) (s1.gh _ _ hb), ?_⟩
    rw [kvT_val]
    exact q _ G1 H1 s1 l1 (by simp only [Rp])
/-- a call that looks at a dict of one's own -/
theorem ev_callK {rel : List D → D → Prop} {kvs : List ((Int × Int) × Str)} {E : XK} (h0 : es[i]? = some (.oT (kvV kvs))) (ha : EvM C ta es x es) (hb : EvM C tb es y es) (hc : EvM C tc es z es) (hr : rel [x, y, .dic kvs, z] .non) :
    EvM C (tCall (spP C rel) [] E (tCons ta (tCons tb (tCons (tVar i) (tCons tc tNil))))) es .non es := fun G H σ Q s q =>
  ha G H σ _ s fun vx G1 H1 s1 l1 rx => hb G1 H1 σ _ s1 fun vy G2 H2 s2 l2 ry => by
    obtain ⟨o, e, a, rfl, hG2, hH2⟩ := s2.ok i _ h0
    refine ⟨_, e, hc G2 H2 σ _ s2 fun vz G3 H3 s3 l3 rz => ?_⟩
    obtain ⟨o', e', a', ea, hG, hH⟩ := s3.ok i _ h0
    rw [e] at e'
    cases e'
    cases ea
    show spP C rel ([vx, vy, .ref a, vz] ++ []) H3 Q E
    rw [List.append_nil]
    have g1 : Ex G3 (upd G3 a (.dT (kvT (kvV kvs)))) := Ex.new hG
    refine ⟨upd G3 a (.dT (kvT (kvV kvs))), [x, y, .dic kvs, z], .non, fun b u eb => ?_, .cons (rx.mono ((l2.gx.trans l3.gx).trans g1)) (.cons (ry.mono (l3.gx.trans g1)) (.cons (by simp only [Rp]; exact ⟨a, rfl, upd_same⟩) (.one (rz.mono g1)))), hr, fun v G4 H4 st rv => ?_⟩
    · by_cases c : b = a
      · subst c; rw [upd_same] at eb; cases eb; exact hH
      · rw [upd_ne c] at eb; exact s3.gh b u eb
    · have h4 : H4 a = some (.dT (kvT (kvV kvs))) := st.gh _ _ (st.gx _ _ upd_same)
      have st2 : Step G3 H3 (fun b => if b = a then none else G4 b) H4 := ⟨fun b u eb => by
        have c : b ≠ a := ne_of_none eb hG
        show (if b = a then none else G4 b) = _
        rw [if_neg c]
        exact st.gx _ _ (by rw [upd_ne c]; exact eb), fun b u eb => by
        have eb : (if b = a then none else G4 b) = some u := eb
        by_cases c : b = a
        · rw [if_pos c] at eb; cases eb
        · rw [if_neg c] at eb; exact st.gh _ _ eb, fun b b1 b2 => by
        show H4 b = H3 b ∧ (if b = a then none else G4 b) = none
        by_cases c : b = a
        · subst c; rw [h4, hH, if_pos rfl]; exact ⟨rfl, rfl⟩
        · obtain ⟨k1, k2⟩ := st.kp b (by rw [upd_ne c]; exact b1) b2
          rw [if_neg c]; exact ⟨k1, k2⟩⟩
      simp only [Rp] at rv
      subst rv
      exact q _ _ _ (s3.step st2) (((l1.trans l2).trans l3).trans st2.rel) (by simp only [Rp])
end
section
variable {P : Program} {w : World} {K : PySem.W.Frag} {mg : Str → Option Value} {base : Heap} {C : Addr}
/-! ### check_mirror, kinds_of -/
theorem ok_chk (d : Df K mg "check_mirror" s_check_mirror) (T : Txt K mg C) (c_is_inside : CallOk P w K mg base "is_inside" 1 ["width", "height", "x", "y"] (spP C r_ins)) : CallOk P w K mg base "check_mirror" 2 ["width", "height", "kinds", "mirror"] (spP C r_chk) := by
  refine .mk' d (fun f fd F => fn_pureN F sc_check_mirror (fun ds d h => by cases h <;> rfl) (fun ds d h => by cases h; rfl) fun cdv A outer s0 H E ds hr h => ?_) (fun _ _ _ _ _ _ us hl => match us, hl with | [_, _, _, _], _ => rfl)
  cases h with
  | mk w0 h0 kvs x y k h1 h2 h3 h4 h5 hk hn =>
    refine ⟨_, (pss_cons (ps_asg (pv 3) (pg_tup rfl (pgs_cons (pg_name (i := 4) sc_check_mirror.nd rfl (Or.inl rfl)) (pgs_cons (pg_name (i := 5) sc_check_mirror.nd rfl (Or.inl rfl)) (pgs_cons (pg_name (i := 6) sc_check_mirror.nd rfl (Or.inl rfl)) pgs_nil)))))
      (pss_cons (ps_if (pt_not (pt_val (pe_callC c_is_inside hr (by decide) rfl (pa_cons (pv 0) (pa_cons (pv 1) (pa_cons (pv 4) (pa_cons (pv 5) pa_nil))))))) pss_never pss_nil)
      (pss_cons (ps_if (pt_cmpR op_notIn_seq (pv 6) (pe_glob (v := V.ref (He.ga K "KINDS")) rfl T.mKINDS rfl) (by rfl)) pss_never pss_nil)
      (pss_one (ps_if (pt_cmp (pc_din (hu_of hr) (pe_tup (pa_cons (pv 4) (pa_cons (pv 5) pa_nil))) (pv 2))) pss_never pss_nil))))), ?_⟩
    refine rn_seq (by walk_at "asg") ?_
    refine rn_seq (run_ifF (et_not (by walk_at "ev")) rfl run_next) ?_
    refine rn_seq (run_ifF (et_test (ev_inK (neg := true) (ev_var rfl) T.tK)) ?_ run_next) ?_
    · rcases hk with e | e <;> subst e <;> decide +kernel
    · exact rn_skip (et_is (et_B (ev_dinD (k1 := x) (k2 := y) (by walk_at "ev") rfl)) (by rw [kv_none hn]; rfl)) rfl
theorem ok_kof (d : Df K mg "kinds_of" s_kinds_of) (T : Txt K mg C) (c_check_mirror : CallOk P w K mg base "check_mirror" 2 ["width", "height", "kinds", "mirror"] (spP C r_chk)) : CallOk P w K mg base "kinds_of" 3 ["width", "height", "mirrors"] (spP C r_kof) := by
  refine .mk' d (fun f fd F => fn_pure F sc_kinds_of (fun ds d h => by cases h <;> rfl) fun cdv A outer s0 H E ds d hr h => ?_) (fun _ _ _ _ _ _ us hl => match us, hl with | [_, _, _], _ => rfl)
  cases h with
  | mk w0 h0 kvs k =>
    refine ⟨_, (pss_cons (ps_set (i := 3) sc_kinds_of.nd rfl (Or.inl rfl) pe_dnewT)
      (pss_cons (ps_for PassesOwn.never rfl (pi_list (pv 2)) (pg_tup rfl (pgs_cons (pg_name (i := 4) sc_kinds_of.nd rfl (Or.inl rfl)) (pgs_cons (pg_name (i := 5) sc_kinds_of.nd rfl (Or.inl rfl)) (pgs_cons (pg_name (i := 6) sc_kinds_of.nd rfl (Or.inl rfl)) pgs_nil))))
      (pss_cons (ps_expr (pe_callC c_check_mirror hr (by decide) rfl (pa_cons (pv 0) (pa_cons (pv 1) (pa_cons (pv 3) (pa_cons (pe_tup (pa_cons (pv 4) (pa_cons (pv 5) (pa_cons (pv 6) pa_nil)))) pa_nil))))))
      (pss_one (ps_dput (hu_of hr) (pv 3) (pe_tup (pa_cons (pv 4) (pa_cons (pv 5) pa_nil))) (pv 6) rfl))))
      (pss_one (ps_ret (pv 3))))), ?_⟩
    refine rr_seq run_newT ?_
    refine rr_for (xs := kvs.map encT) (Pst := fun e => ∃ x y z, e = [.p (.int w0), .p (.int h0), .p (.lst (kvs.map encT)), .oT (kvV kvs), x, y, z]) (ev_var rfl) ?loop ?after
    case after =>
      rintro e ⟨x, y, z, rfl⟩
      refine rr_frT (i := 3) (kvs := kvs) rfl ?_
      walk_at "ret"
    case loop =>
      refine (?_ : ∀ (l pre : List ((Int × Int) × Str)) (x y z : Sl), pre ++ l = kvs → ∃ e, LoopR C _ _ (l.map encT) [.p (.int w0), .p (.int h0), .p (.lst (kvs.map encT)), .oT (kvV pre), x, y, z] (.nx e) ∧
        ∃ x y z, e = [.p (.int w0), .p (.int h0), .p (.lst (kvs.map encT)), .oT (kvV kvs), x, y, z]) kvs [] .no .no .no rfl
      intro l
      induction l with
      | nil => intro pre x y z e; rw [List.append_nil] at e; subst e; exact ⟨_, rfl, _, _, _, rfl⟩
      | cons q l ih =>
        intro pre x y z e
        obtain ⟨⟨a, b⟩, t⟩ := q
        have hm : ((a, b), t) ∈ kvs := by rw [← e]; simp
        have hin := k.ms.ins _ (List.mem_map.mpr ⟨_, hm, rfl⟩)
        obtain ⟨i1, i2, i3, i4, i5⟩ := hin
        have hkd := k.kd _ hm
        have hn : (a, b) ∉ pre.map (·.1) := by
          have nd := k.nd
          rw [← e, List.map_append, List.nodup_append] at nd
          intro hp
          exact nd.2.2 _ hp _ (List.mem_map.mpr ⟨_, List.mem_cons_self .., rfl⟩) rfl
        have hlen : pre.length ≤ 20 := by have := k.ln; rw [← e, List.length_append] at this; omega
        obtain ⟨e', h1, h2⟩ := ih (pre ++ [((a, b), t)]) (.p (.int a)) (.p (.int b)) (.p (.str t)) (by rw [List.append_assoc]; exact e)
        refine ⟨e', ⟨_, by walk_at "tgt", .nx _, ?_, h1⟩, h2⟩
        refine run_seq (run_drop (ev_callK (i := 3) (kvs := pre) rfl (by walk_at "ev") (by walk_at "ev") (by walk_at "ev") (r_chk.mk w0 h0 pre a b t i1 i2 i3 i4 i5 hkd hn))) ?_
        refine run_eq (run_putT (k1 := a) (k2 := b) (x := .str t) (w := .str t) (ev_var rfl) rfl (by walk_at "ev") rfl (small_line (by rw [List.length_map]; omega))) ?_
        rw [kv_put hn]
        rfl
end
end Sw
end
section
open PySem PySem.Spec PyProof.Rows L2 Sw Sd
local macro_rules | `(tactic| walk_at "ev") => `(tactic| first
  | with_reducible exact ev_cI
  | with_reducible exact ev_cS
  | with_reducible exact ev_cB
  | with_reducible exact ev_cN
  | with_reducible exact ea_nil
  | ((with_reducible apply ev_var); rfl)
  | ((with_reducible apply ea_cons); (· walk_at "ev"); (· walk_at "ev"))
  | ((with_reducible apply ev_add); (· walk_at "ev"); (· walk_at "ev"))
  | ((with_reducible apply ev_sub); (· walk_at "ev"); (· walk_at "ev"))
  | ((with_reducible apply ev_min2); (· walk_at "ev"); (· walk_at "ev"))
  | ((with_reducible apply ev_lt); (· walk_at "ev"); (· walk_at "ev"))
  | ((with_reducible apply ev_le); (· walk_at "ev"); (· walk_at "ev"))
  | ((with_reducible apply ev_gt); (· walk_at "ev"); (· walk_at "ev"))
  | ((with_reducible apply ev_ge); (· walk_at "ev"); (· walk_at "ev"))
  | ((with_reducible apply ev_eqI); (· walk_at "ev"); (· walk_at "ev"))
  | ((with_reducible apply ev_eqS); (· walk_at "ev"); (· walk_at "ev"))
  | ((with_reducible apply ev_eqB); (· walk_at "ev"); (· walk_at "ev"))
  | ((with_reducible apply ev_neI); (· walk_at "ev"); (· walk_at "ev"))
  | ((with_reducible apply ev_neg); (· walk_at "ev"))
  | ((with_reducible apply ev_isN); (· walk_at "ev"))
  | ((with_reducible apply ev_notN); (· walk_at "ev"))
  | ((with_reducible apply et_test); (· walk_at "ev"))
  | ((with_reducible apply et_B); (· walk_at "ev"))
  | ((with_reducible apply et_not); (· walk_at "ev"))
  | ((with_reducible apply ev_tup); (· walk_at "ev"); (· exact Nat.le_of_ble_eq_true rfl))
  | ((with_reducible apply ev_lst); (· walk_at "ev"); (· exact Nat.le_of_ble_eq_true rfl))
  | ((with_reducible apply ev_ix); (· walk_at "ev"); (· walk_at "ev"); (· rfl); (· rfl))
  | ((with_reducible apply ev_mulS); (· walk_at "ev"); (· walk_at "ev"); (· first | exact .inl ⟨by decide, by decide⟩ | exact .inr ⟨by decide, by decide⟩))
  | ((with_reducible apply ev_mulW); (· walk_at "ev"); (· walk_at "ev"); (· walk_at "sd"))
  | ((with_reducible apply ev_mod); (· walk_at "ev"); (· walk_at "ev"); (· walk_at "sd"))
  | ((with_reducible apply ev_div); (· walk_at "ev"); (· walk_at "ev"); (· walk_at "sd"))
  | ((with_reducible apply ev_prop); (· walk_at "ev"); (· walk_at "pr"))
  | ((with_reducible apply ev_chain); (· walk_at "ev"); (· walk_at "ev"); (· walk_at "ev"); (· exact r2_cmp); (· exact r2_cmp))
  | ((with_reducible apply ev_call); (· walk_at "ev"); (· walk_at "rel")))
local macro_rules | `(tactic| walk_at "sd") => `(tactic| first | assumption | decide | omega)
local macro_rules | `(tactic| walk_at "ret") => `(tactic| (apply rr_ret; (· walk_at "ev"); (try rfl)))
local macro_rules | `(tactic| walk_at "asg") => `(tactic| (apply run_asg; (· walk_at "ev"); (· walk_at "tgt")))
local macro_rules | `(tactic| walk_at "tgt") => `(tactic| first
  | with_reducible exact eg_name
  | ((apply eg_tup); (· rfl); (· walk_at "tgt"))
  | with_reducible exact egs_nil
  | ((with_reducible apply egs_cons); (· walk_at "tgt"); (· walk_at "tgt")))
local macro_rules | `(tactic| walk_at "set") => `(tactic| (apply rr_seq; (· walk_at "asg")))
local macro_rules | `(tactic| walk_at "par") => `(tactic| (apply rr_seq; (· apply run_par; walk_at "ev")))
local macro_rules | `(tactic| walk_at "asgE") => `(tactic| (apply run_eq; (· walk_at "asg"); (· rfl)))
local macro_rules | `(tactic| walk_at "parE") => `(tactic| (apply run_eq; (· apply run_par; walk_at "ev"); (· rfl)))
local macro_rules | `(tactic| walk_at "evr") => `(tactic| first | (apply et_is; (· walk_at "ev"); (· rfl)) | (apply ev_is; (· walk_at "ev"); (· rfl)))
local macro_rules | `(tactic| walk_at "drop") => `(tactic| (apply rr_seq; (· apply run_drop; walk_at "ev")))

namespace Sw
open Sd
local macro_rules | `(tactic| walk_at "rel") => `(tactic| first
  | exact r_go.mk _ _ _ _ _ _ _ (by assumption) (by assumption) (by assumption) (by assumption) (by assumption)
  | exact r_tog.mk _ _ _ _ _ _ (by assumption) (by assumption) (by assumption) (by assumption)
  | exact r_cnt.mk _ _ _ _ (by assumption) (by assumption)
  | exact r_loc.mk _ _ _ _ (by assumption) (by assumption)
  | exact r_csq.mk _ _ _ _ (by assumption)
  | exact r_cway.mk _ _ _ _ _ (by assumption) (by assumption)
  | exact r_frm.mk _ _ _ (by assumption)
  | exact r_legs.mk _ (by assumption) _ _ _ (by assumption)
  | exact r_str.mk _ _ _ _ _ _ (by assumption) (by assumption) (by assumption) (by assumption)
  | exact r_flen.mk _ _ _ _ _ (by assumption) (by assumption) (by assumption)
  | exact r_steps.mk3 _ (by assumption) _ _ _ _ _
  | exact r_steps.mk2 _ (by assumption) _ _ _ _
  | exact r_tom.mk _ (by assumption) _ _
  | exact r_from.mk _ (by assumption) _ _ _ _ (by assumption)
  | exact r_behind.mk _ _ _ _
  | exact r_gcd.mk _ _ (by assumption) (by assumption) (by assumption) (by assumption)
  | exact r_cls.mk _ _ _ (by assumption)
  | exact r_fsq.mk _ _ (by assumption)
  | exact r_fpt.mk _ _ (by assumption)
  | exact r_pts.mk _ _
  | exact r_unf.mk _ _ _ _)
local macro_rules | `(tactic| walk_at "pr") => `(tactic| first
  | exact r_w.mk _ _ _
  | exact r_h.mk _ _ _
  | exact r_mirs.mk _ _ _ (by assumption))

inductive r_init : List D → Int → Int → List ((Int × Int) × Str) → Prop where
  | mk (w h : Int) (kvs : List ((Int × Int) × Str)) (k : KvOk w h kvs) : r_init [.int w, .int h, .lst (kvs.map encT)] w h kvs
section
variable {P : Program} {w : World} {K : PySem.W.Frag} {mg : Str → Option Value} {base : Heap} {C : Addr}
theorem not_own {es : Es} {σ : St} {a : Addr} (h : ∀ (i : Nat) (s : Sl), es[i]? = some s → s.own = false) : ¬ Ow es σ a := fun ⟨i, s, e, o, _⟩ => by
  rw [h i s e] at o; cases o
theorem ok_init (d : DfI K C "__init__" "Board.__init__" s_Board_init) (T : Txt K mg C) (c_kinds_of : CallOk P w K mg base "kinds_of" 3 ["width", "height", "mirrors"] (spP C r_kof)) : MakeOk P w K mg base C 4 ["self", "width", "height", "mirrors"] (spI C r_init) := by
  refine .mk' d (fun f fd F => F.ok sc_Board_init (fun vs H Q E ⟨G, x, dx, us, ds, w0, h0, kvs, e, _, _, _, r, rr, _⟩ => by cases rr; rw [e, List.length_cons, r.length]; rfl) fun cdv A outer s H vs Q E hr ⟨G, x, dx, us, ds, w0, h0, kvs, e, gh, hG, hH, r, rr, q⟩ => ?_) (fun _ _ _ _ _ _ us hl => match us, hl with | [_, _, _, _], _ => rfl)
  subst e
  cases rr with
  | mk w0 h0 kvs k =>
    refine ⟨_, ((pss_cons (ps_if (pt_cmpR op_lt (pv 1) pe_int (nomark _)) pss_never pss_nil)
      (pss_cons (ps_if (pt_cmpR op_lt (pv 2) pe_int (nomark _)) pss_never pss_nil)
      (pss_cons (ps_fld (pv 0) (pv 1) rfl)
      (pss_cons (ps_fld (pv 0) (pv 2) rfl)
      (pss_one (ps_fld (pv 0) (pe_callC c_kinds_of hr (by decide) rfl (pa_cons (pv 1) (pa_cons (pv 2) (pa_cons (pv 3) pa_nil)))) rfl)))))) : PSs (cxOf CX0 P w K mg base N_Board_init "Board.__init__" (defScope s_Board_init) f cdv A outer s H E).nox (defBody s_Board_init) _).nox, ?_⟩
    have r' := r
    simp only [RpL, Rp] at r'
    obtain ⟨_, _, rfl, rfl, _, _, rfl, rfl, _, _, rfl, ⟨la, lv, rfl, lG, lr⟩, rfl⟩ := r'
    generalize eσ : L2.start N_Board_init [V.ref x, V.int w0, V.int h0, V.ref la] = σ
    have eσ : [some (V.ref x), some (V.int w0), some (V.int h0), some (V.ref la)] = σ := eσ
    have hw := k.ms.w0
    have hh := k.ms.h0
    have no : ∀ (i : Nat) (s : Sl), ([.no, .p (.int w0), .p (.int h0), .p (.lst (kvs.map encT))] : Es)[i]? = some s → s.own = false := fun i s e => by
      match i, e with
      | 0, e => cases e; rfl
      | 1, e => cases e; rfl
      | 2, e => cases e; rfl
      | 3, e => cases e; rfl
    have s0 : SR C G H [.no, .p (.int w0), .p (.int h0), .p (.lst (kvs.map encT))] σ := by
      rw [← eσ]
      refine ⟨gh, rfl, fun i s e => ?_, fun i j sa sb a q1 q2 o1 o2 q3 q4 => by rw [no i sa q1] at o1; cases o1⟩
      match i, e with
      | 0, e => cases e; exact ⟨_, rfl, trivial⟩
      | 1, e => cases e; exact ⟨_, rfl, _, rfl, by simp only [Rp]⟩
      | 2, e => cases e; exact ⟨_, rfl, _, rfl, by simp only [Rp]⟩
      | 3, e => cases e; exact ⟨_, rfl, _, rfl, by simp only [Rp]; exact ⟨la, lv, rfl, lG, lr⟩⟩
    have v0 : σ[0]? = some (some (V.ref x)) := by rw [← eσ]; rfl
    have v1 : σ[1]? = some (some (V.int w0)) := by rw [← eσ]; rfl
    have v2 : σ[2]? = some (some (V.int h0)) := by rw [← eσ]; rfl
    refine (et_is (b' := false) (et_test (ev_lt (i := w0) (j := 1) (ev_var rfl) ev_cI)) (decide_eq_false (by omega)) : EvT C _ _ false _) G H σ _ s0 fun G1 H1 s1 l1 => ?_
    refine (et_is (b' := false) (et_test (ev_lt (i := h0) (j := 1) (ev_var rfl) ev_cI)) (decide_eq_false (by omega)) : EvT C _ _ false _) G1 H1 σ _ s1 fun G2 H2 s2 l2 => ?_
    have l12 := l1.trans l2
    obtain ⟨x1, x2, _⟩ := l12.kp x hG (by rw [hH]; exact Option.some_ne_none _) (not_own no)
    rw [hH] at x1
    refine ⟨_, v1, _, v0, x, C, dx, _, rfl, x1, T.cl, T.nW, by decide, ?_⟩
    refine ⟨_, v2, _, v0, x, C, dx, _, rfl, upd_same, T.cl, T.nH, Nat.le_of_ble_eq_true rfl, ?_⟩
    rw [upd_upd]
    have s3 := s2.off (u := .ins C dx (putF "high" (.int h0) (putF "wide" (.int w0) []))) x2 (not_own no)
    refine (ev_call (ds := [.int w0, .int h0, .lst (kvs.map encT)]) (ea_cons (ev_var rfl) (ea_cons (ev_var rfl) (ea_cons (ev_var rfl) ea_nil))) (r_kof.mk w0 h0 kvs k) : EvM C _ _ (.dic kvs) _) G2 _ σ _ s3 fun v G3 H3 s4 l3 rv => ?_
    simp only [Rp] at rv
    obtain ⟨dd, rfl, hd⟩ := rv
    obtain ⟨y1, y2, _⟩ := l3.kp x x2 (by rw [upd_same]; exact Option.some_ne_none _) (not_own no)
    rw [upd_same] at y1
    refine ⟨_, v0, x, C, dx, _, rfl, y1, T.cl, T.nK, Nat.le_of_ble_eq_true rfl, ?_⟩
    refine q G3 _ dd (l12.gx.trans l3.gx) (fun a u e => ?_) y2 upd_same hd fun a a0 a1 a2 => ?_
    · rw [upd_ne (ne_of_none e y2)]; exact s4.gh a u e
    · obtain ⟨z1, z2, _⟩ := l12.kp a a1 a2 (not_own no)
      obtain ⟨u1, u2, _⟩ := l3.kp a z2 (by rw [upd_ne a0, z1]; exact a2) (not_own no)
      rw [upd_ne a0] at u1
      exact ⟨by rw [upd_ne a0, u1, z1], u2⟩
end
end Sw
end
section
open PySem PySem.Spec PyProof.Rows L2 Sw Sd
local macro_rules | `(tactic| walk_at "ev") => `(tactic| first
  | with_reducible exact ev_cI
  | with_reducible exact ev_cS
  | with_reducible exact ev_cB
  | with_reducible exact ev_cN
  | with_reducible exact ea_nil
  | ((with_reducible apply ev_var); rfl)
  | ((with_reducible apply ea_cons); (· walk_at "ev"); (· walk_at "ev"))
  | ((with_reducible apply ev_add); (· walk_at "ev"); (· walk_at "ev"))
  | ((with_reducible apply ev_sub); (· walk_at "ev"); (· walk_at "ev"))
  | ((with_reducible apply ev_min2); (· walk_at "ev"); (· walk_at "ev"))
  | ((with_reducible apply ev_lt); (· walk_at "ev"); (· walk_at "ev"))
  | ((with_reducible apply ev_le); (· walk_at "ev"); (· walk_at "ev"))
  | ((with_reducible apply ev_gt); (· walk_at "ev"); (· walk_at "ev"))
  | ((with_reducible apply ev_ge); (· walk_at "ev"); (· walk_at "ev"))
  | ((with_reducible apply ev_eqI); (· walk_at "ev"); (· walk_at "ev"))
  | ((with_reducible apply ev_eqS); (· walk_at "ev"); (· walk_at "ev"))
  | ((with_reducible apply ev_eqB); (· walk_at "ev"); (· walk_at "ev"))
  | ((with_reducible apply ev_neI); (· walk_at "ev"); (· walk_at "ev"))
  | ((with_reducible apply ev_neg); (· walk_at "ev"))
  | ((with_reducible apply ev_isN); (· walk_at "ev"))
  | ((with_reducible apply ev_notN); (· walk_at "ev"))
  | ((with_reducible apply et_test); (· walk_at "ev"))
  | ((with_reducible apply et_B); (· walk_at "ev"))
  | ((with_reducible apply et_not); (· walk_at "ev"))
  | ((with_reducible apply ev_tup); (· walk_at "ev"); (· exact Nat.le_of_ble_eq_true rfl))
  | ((with_reducible apply ev_lst); (· walk_at "ev"); (· exact Nat.le_of_ble_eq_true rfl))
  | ((with_reducible apply ev_ix); (· walk_at "ev"); (· walk_at "ev"); (· rfl); (· rfl))
  | ((with_reducible apply ev_mulS); (· walk_at "ev"); (· walk_at "ev"); (· first | exact .inl ⟨by decide, by decide⟩ | exact .inr ⟨by decide, by decide⟩))
  | ((with_reducible apply ev_mulW); (· walk_at "ev"); (· walk_at "ev"); (· walk_at "sd"))
  | ((with_reducible apply ev_mod); (· walk_at "ev"); (· walk_at "ev"); (· walk_at "sd"))
  | ((with_reducible apply ev_div); (· walk_at "ev"); (· walk_at "ev"); (· walk_at "sd"))
  | ((with_reducible apply ev_prop); (· walk_at "ev"); (· walk_at "pr"))
  | ((with_reducible apply ev_chain); (· walk_at "ev"); (· walk_at "ev"); (· walk_at "ev"); (· exact r2_cmp); (· exact r2_cmp))
  | ((with_reducible apply ev_call); (· walk_at "ev"); (· walk_at "rel")))
local macro_rules | `(tactic| walk_at "sd") => `(tactic| first | assumption | decide | omega)
local macro_rules | `(tactic| walk_at "ret") => `(tactic| (apply rr_ret; (· walk_at "ev"); (try rfl)))
local macro_rules | `(tactic| walk_at "asg") => `(tactic| (apply run_asg; (· walk_at "ev"); (· walk_at "tgt")))
local macro_rules | `(tactic| walk_at "tgt") => `(tactic| first
  | with_reducible exact eg_name
  | ((apply eg_tup); (· rfl); (· walk_at "tgt"))
  | with_reducible exact egs_nil
  | ((with_reducible apply egs_cons); (· walk_at "tgt"); (· walk_at "tgt")))
local macro_rules | `(tactic| walk_at "set") => `(tactic| (apply rr_seq; (· walk_at "asg")))
local macro_rules | `(tactic| walk_at "par") => `(tactic| (apply rr_seq; (· apply run_par; walk_at "ev")))
local macro_rules | `(tactic| walk_at "asgE") => `(tactic| (apply run_eq; (· walk_at "asg"); (· rfl)))
local macro_rules | `(tactic| walk_at "parE") => `(tactic| (apply run_eq; (· apply run_par; walk_at "ev"); (· rfl)))
local macro_rules | `(tactic| walk_at "evr") => `(tactic| first | (apply et_is; (· walk_at "ev"); (· rfl)) | (apply ev_is; (· walk_at "ev"); (· rfl)))
local macro_rules | `(tactic| walk_at "drop") => `(tactic| (apply rr_seq; (· apply run_drop; walk_at "ev")))

namespace Sw
open PySem PySem.Spec PyProof.Rows L2 Srt SrtO
/-! ### sorted, of tuples of two ints and a text -/
section
variable {prog : Program} {w : World} {A : Around} {E : Value → Shared → Prop} {s : Shared}
abbrev KeyM := (Int × Int) × Str
def Tri (h : Heap) (v : Value) (k : KeyM) : Prop := ∃ q ob t1 t2 t3 m, v = .ref q ∧ h.get? q = some ob ∧ ob.cls = .type "tuple" ∧ ob.data = .seq #[.int k.1.1 t1, .int k.1.2 t2, .str k.2 t3] m
theorem Tri.keep {h h' : Heap} {v : Value} {k : KeyM} (p : Tri h v k) (kp : ∀ b o, h.get? b = some o → o.cls = .type "tuple" → h'.get? b = some o) : Tri h' v k := by
  obtain ⟨q, ob, t1, t2, t3, m, e, e1, e2, e3⟩ := p
  exact ⟨q, ob, t1, t2, t3, m, e, kp _ _ e1 e2, e2, e3⟩
theorem tri_firsts {h : Heap} : ∀ {us : List Value}, (∀ v ∈ us, ∃ k, Tri h v k) → ∃ fs : List Value, PySem.W.KatTups h us fs ∧ fs.length = us.length ∧ ∀ f ∈ fs, ∃ x t, f = Value.int x t
  | [], _ => ⟨[], .nil, rfl, fun _ hm => by cases hm⟩
  | v :: us, hp => by
    obtain ⟨fs, g1, g2, g3⟩ := tri_firsts (us := us) fun v' hm => hp v' (List.mem_cons_of_mem _ hm)
    obtain ⟨k, q, ob, t1, t2, t3, m, e, e1, e2, e3⟩ := hp v (List.mem_cons_self ..)
    subst e
    refine ⟨.int k.1.1 t1 :: fs, .cons e1 e2 e3 rfl g1, by simp [g2], fun f hm => ?_⟩
    rcases List.mem_cons.mp hm with e | hm
    · exact ⟨_, _, e⟩
    · exact g3 f hm
theorem tri_cmp {us : List Value} {k : Value → KeyM} (hp : ∀ v ∈ us, Tri s.heap v (k v)) (hu : ∀ v ∈ us, ∀ u ∈ us, (k v).1 = (k u).1 → (k v).2 = (k u).2) : Cmp prog w A s (tuples' true) (fun p => p.1 ∈ us) (lt2 fun v u => lexB (k v).1 (k u).1) := by
  intro p q hm hm'
  have g1 := hp _ hm
  have g2 := hp _ hm'
  have g3 := hu _ hm _ hm'
  show wpAny (model prog w) A (keyLt' (tuples' true) p.1 q.1) (fun r s' => s' = s ∧ r = lexB (k p.1).1 (k q.1).1) (fun _ _ => False) s
  generalize k p.1 = kp at g1 g3 ⊢
  generalize k q.1 = kq at g2 g3 ⊢
  obtain ⟨⟨x, y⟩, z⟩ := kp
  obtain ⟨⟨x', y'⟩, z'⟩ := kq
  obtain ⟨a1, o1, t1, t2, t3, m, e, c1, c2, c3⟩ := g1
  obtain ⟨a2, o2, u1, u2, u3, m', e', d1, d2, d3⟩ := g2
  rw [e, e']
  refine PySem.W.kat_lt c1 c3 d1 d3 (?_ : PySem.W.KatLex prog w A true (decide (3 < 3)) _ [(.int x t1, .int x' u1), (.int y t2, .int y' u2), (.str z t3, .str z' u3)] 0 s)
  refine PySem.W.kat_cons (SeqAt.EqAt.int_int x t1 x' u1 prog w _ _ (PySem.W.kat_go (fun r1 => ?_) (fun r1 => ?_)))
  · have ex : x = x' := by simpa using r1
    refine PySem.W.kat_yes (PySem.W.kat_cons (SeqAt.EqAt.int_int y t2 y' u2 prog w _ _ (PySem.W.kat_go (fun r2 => ?_) (fun r2 => ?_))))
    · have ey : y = y' := by simpa using r2
      have ez : z = z' := g3 (by rw [ex, ey])
      have eb : lexB (x, y) (x', y') = false := by rw [ex, ey]; exact lexB_no.mpr (by omega)
      refine PySem.W.kat_yes (PySem.W.kat_cons (SeqAt.EqAt.str_str z t3 z' u3 prog w _ _ (PySem.W.kat_go (fun r3 => ?_) (fun r3 => ?_))))
      · exact PySem.W.kat_yes (PySem.W.kat_nil ⟨rfl, eb.symm⟩)
      · rw [ez] at r3; simp at r3
    · have ey : ¬ y = y' := by simpa using r2
      have eb : lexB (x, y) (x', y') = decide (y < y') := if_pos ex
      exact PySem.W.kat_no (PySem.W.kat_one _ _ (PyProof.Rows.lt_int (show s = s ∧ decide (y < y') = _ from ⟨rfl, eb.symm⟩)))
  · have ex : ¬ x = x' := by simpa using r1
    have eb : lexB (x, y) (x', y') = decide (x < x') := if_neg ex
    exact PySem.W.kat_no (oneLt_int ⟨rfl, eb.symm⟩)
theorem tri_sortable {a : Addr} {us : List Value} {k : Value → KeyM} (h0 : 0 < us.length) (hp : ∀ v ∈ us, Tri s.heap v (k v)) (hu : ∀ v ∈ us, ∀ u ∈ us, (k v).1 = (k u).1 → (k v).2 = (k u).2) (ha : ∀ o, s.heap.get? a = some o → o.cls ≠ .type "tuple") :
    SortableO prog w A s a us fun v u => lexB (k v).1 (k u).1 := by
  intro h' kp
  have hq : ∀ v ∈ us, Tri h' v (k v) := fun v hm => (hp v hm).keep fun b o e c => kp b o (fun z => by subst z; exact ha o e c) e
  obtain ⟨fs, g1, g2, g3⟩ := tri_firsts fun v hm => ⟨_, hq v hm⟩
  refine ⟨tuples' true, fun Q E q => ?_, tri_cmp hq hu⟩
  refine PySem.W.kat_kind (T := .type "int") g1 (by rw [g2]; exact h0) (fun f hm => ?_) rfl ?_
  · obtain ⟨x, t, rfl⟩ := g3 f hm
    exact PySem.W.Looks.now
  · rw [show (Value.type "int" != Value.type "tuple") = true by decide +kernel]
    exact q
theorem tri_sorted {l : Addr} {us : List Value} {k : Value → KeyM} {Q : Value → Shared → Prop} (hl : s.heap.IsList l us.toArray) (hz : us.length ≤ sizeLine) (hp : ∀ v ∈ us, Tri s.heap v (k v)) (hu : ∀ v ∈ us, ∀ u ∈ us, (k v).1 = (k u).1 → (k v).2 = (k u).2)
    (h : ∀ (h' : Heap) (d : Addr) (out : List Value), Srtd (fun v u => lexB (k v).1 (k u).1) out → Stb (fun v u => lexB (k v).1 (k u).1) out us → (∀ b o, s.heap.get? b = some o → h'.get? b = some o) → s.heap.objs.size ≤ d → (∃ n, h'.get? d = some (seqObj "list" out.toArray n)) → Q (.ref d) { s with heap := h' }) :
    wpAny (model prog w) A (call (.builtin "sorted") [.ref l]) Q E s := by
  refine sorted_ord (swo_lex fun v => (k v).1) hl hz (fun h2 h₁ a ha kk => ?_) fun out hs hb => h _ _ out hs hb (fun b o e => sortedAll_old e) (Nat.le_succ _) (sortedAll_at s.heap us out.toArray)
  refine tri_sortable (s := { s with heap := h₁ }) (Nat.lt_of_lt_of_le (by decide) h2) (fun v hm => (hp v hm).keep fun b o e _ => (kk b o e).2) hu fun o e => ?_
  have e' : some o = some (seqObj "list" us.toArray 0) := e.symm.trans ha
  cases e'
  exact fun c => absurd (Value.type.inj c) (by decide)
end
/-- sorted of such tuples, no two of which have the same ints and other texts -/
def rSortM (K : PySem.W.Frag) : List V → Hp → VK → Prop := fun vs H Q => ∃ (a : Addr) (xs : List V) (k : V → KeyM), vs = [V.ref a] ∧ SqL K H a xs ∧ (∀ x ∈ xs, ∃ t, x = V.ref t ∧ H t = some (.tup [.int (k x).1.1, .int (k x).1.2, .str (k x).2])) ∧
  (∀ x ∈ xs, ∀ y ∈ xs, (k x).1 = (k y).1 → (k x).2 = (k y).2) ∧ ∀ ys p, Srtd (ltP fun v => (k v).1) ys → Stb (ltP fun v => (k v).1) ys xs → H p = none → Q (.ref p) (upd H p (.lst ys))
theorem cr_sortM {X : Cx} : CallR X (.builtin "sorted") (rSortM X.K) := by
  intro pins s σ H vs us Q I r h
  obtain ⟨a, xs, k, rfl, hs, hx, hu, q⟩ := h
  obtain ⟨its, rv, hl, hz⟩ := I.list hs
  obtain ⟨u, rfl, ru⟩ := vals1 r
  obtain rfl : u = Value.ref a := ru
  obtain ⟨e1, e2⟩ := refs_back rv fun x m => (hx x m).imp fun t z => z.1
  have mem : ∀ {v : Value}, v ∈ its → backV v ∈ xs := fun {v} hv => by rw [e1]; exact List.mem_map.mpr ⟨v, hv, rfl⟩
  refine tri_sorted (k := fun u => k (backV u)) hl.isList (by rw [← rv.length]; exact hz) (fun v hv => ?_) (fun v hv v' hv' => hu _ (mem hv) _ (mem hv')) fun h' d out h1 h2 kp hd hn => ?_
  · have hm := mem hv
    obtain ⟨t, rfl⟩ := e2 v hv
    obtain ⟨t', e, ht⟩ := hx _ hm
    cases e
    obtain ⟨_, its2, r2, o, ho, hc, n, hd⟩ := I.hok _ _ ht
    obtain ⟨u1, u2, u3, e3, ri, rj, rk⟩ := vals3 r2
    obtain ⟨t1, rfl⟩ := ri
    obtain ⟨t2, rfl⟩ := rj
    obtain ⟨t3, rfl⟩ := rk
    subst e3
    exact ⟨t, o, t1, t2, t3, n, rfl, ho, hc, hd⟩
  · have h3 : ∀ u ∈ out, ∃ a, u = Value.ref a := fun u hm => e2 u (h2.perm.mem_iff.mp hm)
    obtain ⟨n, hn⟩ := hn
    have hb : Stb (ltP fun v => (k v).1) (out.map backV) xs := by
      rw [e1]
      exact Stb.map (ltP_swo fun v => (k v).1) backV h2
    refine ⟨.ref d, upd H d (.lst (out.map backV)), I.laid (t' := s.toks) kp hd ⟨?_, out, n, vals_back h3, hn⟩, rfl, q _ d (srtd_map h1) hb (I.hok.fresh hd)⟩
    rw [hb.len]
    exact hz
end Sw
end
section
open PySem PySem.Spec PyProof.Rows L2 Sw Sd
local macro_rules | `(tactic| walk_at "ev") => `(tactic| first
  | with_reducible exact ev_cI
  | with_reducible exact ev_cS
  | with_reducible exact ev_cB
  | with_reducible exact ev_cN
  | with_reducible exact ea_nil
  | ((with_reducible apply ev_var); rfl)
  | ((with_reducible apply ea_cons); (· walk_at "ev"); (· walk_at "ev"))
  | ((with_reducible apply ev_add); (· walk_at "ev"); (· walk_at "ev"))
  | ((with_reducible apply ev_sub); (· walk_at "ev"); (· walk_at "ev"))
  | ((with_reducible apply ev_min2); (· walk_at "ev"); (· walk_at "ev"))
  | ((with_reducible apply ev_lt); (· walk_at "ev"); (· walk_at "ev"))
  | ((with_reducible apply ev_le); (· walk_at "ev"); (· walk_at "ev"))
  | ((with_reducible apply ev_gt); (· walk_at "ev"); (· walk_at "ev"))
  | ((with_reducible apply ev_ge); (· walk_at "ev"); (· walk_at "ev"))
  | ((with_reducible apply ev_eqI); (· walk_at "ev"); (· walk_at "ev"))
  | ((with_reducible apply ev_eqS); (· walk_at "ev"); (· walk_at "ev"))
  | ((with_reducible apply ev_eqB); (· walk_at "ev"); (· walk_at "ev"))
  | ((with_reducible apply ev_neI); (· walk_at "ev"); (· walk_at "ev"))
  | ((with_reducible apply ev_neg); (· walk_at "ev"))
  | ((with_reducible apply ev_isN); (· walk_at "ev"))
  | ((with_reducible apply ev_notN); (· walk_at "ev"))
  | ((with_reducible apply et_test); (· walk_at "ev"))
  | ((with_reducible apply et_B); (· walk_at "ev"))
  | ((with_reducible apply et_not); (· walk_at "ev"))
  | ((with_reducible apply ev_tup); (· walk_at "ev"); (· exact Nat.le_of_ble_eq_true rfl))
  | ((with_reducible apply ev_lst); (· walk_at "ev"); (· exact Nat.le_of_ble_eq_true rfl))
  | ((with_reducible apply ev_ix); (· walk_at "ev"); (· walk_at "ev"); (· rfl); (· rfl))
  | ((with_reducible apply ev_mulS); (· walk_at "ev"); (· walk_at "ev"); (· first | exact .inl ⟨by decide, by decide⟩ | exact .inr ⟨by decide, by decide⟩))
  | ((with_reducible apply ev_mulW); (· walk_at "ev"); (· walk_at "ev"); (· walk_at "sd"))
  | ((with_reducible apply ev_mod); (· walk_at "ev"); (· walk_at "ev"); (· walk_at "sd"))
  | ((with_reducible apply ev_div); (· walk_at "ev"); (· walk_at "ev"); (· walk_at "sd"))
  | ((with_reducible apply ev_prop); (· walk_at "ev"); (· walk_at "pr"))
  | ((with_reducible apply ev_chain); (· walk_at "ev"); (· walk_at "ev"); (· walk_at "ev"); (· exact r2_cmp); (· exact r2_cmp))
  | ((with_reducible apply ev_call); (· walk_at "ev"); (· walk_at "rel")))
local macro_rules | `(tactic| walk_at "sd") => `(tactic| first | assumption | decide | omega)
local macro_rules | `(tactic| walk_at "ret") => `(tactic| (apply rr_ret; (· walk_at "ev"); (try rfl)))
local macro_rules | `(tactic| walk_at "asg") => `(tactic| (apply run_asg; (· walk_at "ev"); (· walk_at "tgt")))
local macro_rules | `(tactic| walk_at "tgt") => `(tactic| first
  | with_reducible exact eg_name
  | ((apply eg_tup); (· rfl); (· walk_at "tgt"))
  | with_reducible exact egs_nil
  | ((with_reducible apply egs_cons); (· walk_at "tgt"); (· walk_at "tgt")))
local macro_rules | `(tactic| walk_at "set") => `(tactic| (apply rr_seq; (· walk_at "asg")))
local macro_rules | `(tactic| walk_at "par") => `(tactic| (apply rr_seq; (· apply run_par; walk_at "ev")))
local macro_rules | `(tactic| walk_at "asgE") => `(tactic| (apply run_eq; (· walk_at "asg"); (· rfl)))
local macro_rules | `(tactic| walk_at "parE") => `(tactic| (apply run_eq; (· apply run_par; walk_at "ev"); (· rfl)))
local macro_rules | `(tactic| walk_at "evr") => `(tactic| first | (apply et_is; (· walk_at "ev"); (· rfl)) | (apply ev_is; (· walk_at "ev"); (· rfl)))
local macro_rules | `(tactic| walk_at "drop") => `(tactic| (apply rr_seq; (· apply run_drop; walk_at "ev")))

namespace Sw
open Sd
local macro_rules | `(tactic| walk_at "rel") => `(tactic| first
  | exact r_go.mk _ _ _ _ _ _ _ (by assumption) (by assumption) (by assumption) (by assumption) (by assumption)
  | exact r_tog.mk _ _ _ _ _ _ (by assumption) (by assumption) (by assumption) (by assumption)
  | exact r_cnt.mk _ _ _ _ (by assumption) (by assumption)
  | exact r_loc.mk _ _ _ _ (by assumption) (by assumption)
  | exact r_csq.mk _ _ _ _ (by assumption)
  | exact r_cway.mk _ _ _ _ _ (by assumption) (by assumption)
  | exact r_frm.mk _ _ _ (by assumption)
  | exact r_legs.mk _ (by assumption) _ _ _ (by assumption)
  | exact r_str.mk _ _ _ _ _ _ (by assumption) (by assumption) (by assumption) (by assumption)
  | exact r_flen.mk _ _ _ _ _ (by assumption) (by assumption) (by assumption)
  | exact r_steps.mk3 _ (by assumption) _ _ _ _ _
  | exact r_steps.mk2 _ (by assumption) _ _ _ _
  | exact r_tom.mk _ (by assumption) _ _
  | exact r_from.mk _ (by assumption) _ _ _ _ (by assumption)
  | exact r_behind.mk _ _ _ _
  | exact r_gcd.mk _ _ (by assumption) (by assumption) (by assumption) (by assumption)
  | exact r_cls.mk _ _ _ (by assumption)
  | exact r_fsq.mk _ _ (by assumption)
  | exact r_fpt.mk _ _ (by assumption)
  | exact r_pts.mk _ _
  | exact r_unf.mk _ _ _ _)
local macro_rules | `(tactic| walk_at "pr") => `(tactic| first
  | exact r_w.mk _ _ _
  | exact r_h.mk _ _ _
  | exact r_mirs.mk _ _ _ (by assumption))

def TrL (H H' : Hp) : List KeyM → List V → Prop
  | [], vs => vs = []
  | q :: qs, vs => ∃ t r, vs = V.ref t :: r ∧ H t = none ∧ H' t = some (.tup [.int q.1.1, .int q.1.2, .str q.2]) ∧ TrL H H' qs r
theorem TrL.mono {H H' H2 : Hp} (h : ∀ t xs, H' t = some (.tup xs) → H2 t = some (.tup xs)) : ∀ {qs : List KeyM} {vs : List V}, TrL H H' qs vs → TrL H H2 qs vs
  | [], _, k => k
  | q :: qs, _, ⟨t, r, e, a, b, k⟩ => ⟨t, r, e, a, h _ _ b, TrL.mono h k⟩
theorem TrL.snoc {H H' : Hp} {q : KeyM} {t : Addr} (ht : H t = none) (h : H' t = some (.tup [.int q.1.1, .int q.1.2, .str q.2])) : ∀ {qs : List KeyM} {vs : List V}, TrL H H' qs vs → TrL H H' (qs ++ [q]) (vs ++ [V.ref t])
  | [], _, k => by rw [show _ = [] from k]; exact ⟨t, [], rfl, ht, h, rfl⟩
  | _ :: _, _, ⟨u, r, e, a, b, k⟩ => by rw [e]; exact ⟨u, _, rfl, a, b, TrL.snoc ht h k⟩
theorem TrL.len {H H' : Hp} : ∀ {qs : List KeyM} {vs : List V}, TrL H H' qs vs → vs.length = qs.length
  | [], _, k => by rw [show _ = [] from k]; rfl
  | _ :: _, _, ⟨u, r, e, a, b, k⟩ => by rw [e, List.length_cons, List.length_cons, TrL.len k]
theorem TrL.rp {C : Addr} {H H' G' : Hp} (h : ∀ t, H t = none → G' t = H' t) : ∀ {qs : List KeyM} {vs : List V}, TrL H H' qs vs → RpL C G' (qs.map encT) vs
  | [], _, k => by rw [show _ = [] from k]; exact .nil
  | _ :: _, _, ⟨u, r, e, a, b, k⟩ => by
    rw [e]
    exact .cons (.tupI ((h u a).trans b) (by simp only [RpL, Rp]; exact ⟨_, _, rfl, rfl, _, _, rfl, rfl, _, _, rfl, rfl, rfl⟩)) (TrL.rp h k)
section
variable {C : Addr} {K : PySem.W.Frag} {es : Es}
/-- td is the dict of these entries, whatever stands in slots x, y -/
def TdOk (C : Addr) (es : Es) (ix iy : Nat) (kvs : List KeyM) (td : TE) : Prop := ∀ G H σ, SR C G H es σ → ∃ a, G a = some (.dT (kvS kvs)) ∧ ∀ (σ' : St) (H' : Hp) (Q : VK), (∀ i, i ∉ [ix, iy] → σ'[i]? = σ[i]?) → (∀ b u, b ≠ a → G b = some u → H' b = some u) → Q (.ref a) H' → td σ' H' Q
/-- [(x, y, td[(x, y)]) for x, y in td] -/
theorem ev_keysLc {td : TE} {kvs : List KeyM} {ix iy n : Nat} (hn : 2 = n) (hxy : ix ≠ iy) (hx : ix < es.length) (hy : iy < es.length) (nd : (kvs.map (·.1)).Nodup) (hl : kvs.length < sizeLine) (htd : TdOk C es ix iy kvs td) :
    EvM C (tLockE (tLc (iKeys td) (gTup K n (gCons (gName ix) (gCons (gName iy) gNil))) tYes (tTup (tCons (tVar ix) (tCons (tVar iy) (tCons (tDGet td (tTup (tCons (tVar ix) (tCons (tVar iy) tNil)))) tNil)))) [ix, iy])) es (.lst (kvs.map encT)) es := fun G H σ Q s q => by
  obtain ⟨a, hG, hq⟩ := htd G H σ s
  have hH := s.gh _ _ hG
  refine ⟨a, _, hH, trivial, fun od => ?_⟩
  refine hq σ _ _ (fun _ _ => rfl) (fun b u hb e => by rw [upd_ne hb]; exact s.gh _ _ e) ⟨a, od, rfl, .inr ⟨kvS kvs, upd_same, fun Dl hD => ?_⟩⟩
  have hDa : Dl ≠ a := fun e => by rw [e, upd_same] at hD; cases hD
  rw [upd_ne hDa] at hD
  have hGD : G Dl = none := s.gh.nn hD
  have hlen : (kvS kvs).length = kvs.length := by simp [kvS, kvT]
  refine ⟨fun i m H' => m = kvs.length - i ∧ i ≤ kvs.length ∧ (∀ b u, b ≠ a → H b = some u → H' b = some u) ∧ H' a = some (.frz od (.dT (kvS kvs))) ∧ ∃ wd, H' Dl = some (.lst wd) ∧ TrL H H' (kvs.take i) wd,
    ⟨_, rfl, Nat.zero_le _, fun b u hb e => ?_, ?_, [], upd_same, rfl⟩, ?_⟩
  · rw [upd_ne (ne_of_none e hD), upd_ne hb]; exact e
  · rw [upd_ne hDa.symm, upd_same]
  rintro i m H' ⟨rfl, hi, h1, h2, wd, h3, h4⟩
  by_cases c : i < kvs.length
  · refine .inr ⟨⟨h2, by rw [hlen]; exact c⟩, fun H' => i + 1 ≤ kvs.length ∧ (∀ b u, b ≠ a → H b = some u → H' b = some u) ∧ H' a = some (.frz od (.dT (kvS kvs))) ∧ ∃ wd, H' Dl = some (.lst wd) ∧ TrL H H' (kvs.take (i + 1)) wd,
      fun H2 p => ⟨_, by omega, rfl, p⟩, fun x H2 y => ?_⟩
    obtain ⟨rfl, k, v, qa, e1, rfl, e2⟩ := y
    have eg : kvs[i]? = some kvs[i] := List.getElem?_eq_getElem c
    have ee : (kvS kvs)[i]? = some (key2 kvs[i].1, V.str kvs[i].2) := by
      simp only [kvS, kvT, List.getElem?_map, eg]
      rfl
    rw [ee] at e1
    cases e1
    have hmem : kvs[i] ∈ kvs := List.getElem_mem c
    have htk : kvs.take (i + 1) = kvs.take i ++ [kvs[i]] := by rw [List.take_add_one, eg]; rfl
    generalize kvs[i] = e at *
    obtain ⟨⟨x, y⟩, z⟩ := e
    have hw := wipe_length σ [ix, iy]
    have hsl := s.len
    refine ⟨qa, [V.int x, V.int y], rfl, SqT.of e2, hn, _, _, rfl, _, _, rfl, rfl, ?_⟩
    have off : ∀ i, i ∉ [ix, iy] → (((wipe σ [ix, iy]).set ix (some (V.int x))).set iy (some (V.int y)))[i]? = σ[i]? := fun j hj => by
      have n1 : ix ≠ j := fun e => hj (by rw [← e]; simp)
      have n2 : iy ≠ j := fun e => hj (by rw [← e]; simp)
      rw [List.getElem?_set_ne n2, List.getElem?_set_ne n1, wipe_other hj]
    generalize hσ2 : ((wipe σ [ix, iy]).set ix (some (V.int x))).set iy (some (V.int y)) = σ2 at off ⊢
    have sx : σ2[ix]? = some (some (V.int x)) := by
      rw [← hσ2, List.getElem?_set_ne hxy.symm, List.getElem?_set_self (by rw [hw, hsl]; exact hx)]
    have sy : σ2[iy]? = some (some (V.int y)) := by
      rw [← hσ2, List.getElem?_set_self (by rw [List.length_set, hw, hsl]; exact hy)]
    refine ⟨wipe_same (by rw [← hσ2]; simp [hw]) off, ?_⟩
    refine ⟨_, sx, _, sy, ?_⟩
    refine hq σ2 H2 _ off (fun b u hb e => h1 b u hb (s.gh _ _ e)) ⟨_, sx, _, sy, Nat.le_of_ble_eq_true rfl, fun p hp => ⟨a, V.str z, rfl, .inr ⟨kvS kvs, key2 (x, y), p, .inr ⟨od, ?_⟩, rfl, upd_same, ?_⟩, Nat.le_of_ble_eq_true rfl, fun p2 hp2 => ⟨wd, ?_, ?_, c, fun b u hb e => ?_, ?_, wd ++ [V.ref p2], upd_same, ?_⟩⟩⟩
    · rw [upd_ne (ne_of_none h2 hp)]; exact h2
    · rw [show kvS kvs = kvT (kvV kvs) from rfl, kvT_val]; exact (kv_get nd hmem).symm
    · have n1 : Dl ≠ p := ne_of_none h3 hp
      have h5 : upd H2 p (.tup [V.int x, V.int y]) Dl = some (.lst wd) := by rw [upd_ne n1]; exact h3
      rw [upd_ne (ne_of_none h5 hp2)]; exact h5
    · rw [h4.len, List.length_take]; omega
    · have n1 : b ≠ Dl := ne_of_none e hD
      have h5 := h1 b u hb e
      have h6 : upd H2 p (.tup [V.int x, V.int y]) b = some u := by rw [upd_ne (ne_of_none h5 hp)]; exact h5
      rw [upd_ne n1, upd_ne (ne_of_none h6 hp2)]; exact h6
    · have h6 : upd H2 p (.tup [V.int x, V.int y]) a = some (.frz od (.dT (kvS kvs))) := by rw [upd_ne (ne_of_none h2 hp)]; exact h2
      rw [upd_ne hDa.symm, upd_ne (ne_of_none h6 hp2)]; exact h6
    · have keep : ∀ t xs, H2 t = some (.tup xs) → upd (upd (upd H2 p (.tup [V.int x, V.int y])) p2 (.tup [V.int x, V.int y, V.str z])) Dl (.lst (wd ++ [V.ref p2])) t = some (.tup xs) := fun t xs e => by
        have n1 : t ≠ Dl := fun z => by rw [z, h3] at e; cases e
        have h6 : upd H2 p (.tup [V.int x, V.int y]) t = some (.tup xs) := by rw [upd_ne (ne_of_none e hp)]; exact e
        rw [upd_ne n1, upd_ne (ne_of_none h6 hp2)]; exact h6
      have n0 : p2 ≠ a := fun e => by rw [e, upd_ne (ne_of_none h2 hp), h2] at hp2; cases hp2
      have n1 : p2 ≠ p := fun e => by rw [e, upd_same] at hp2; cases hp2
      have n2 : p2 ≠ Dl := fun e => by rw [e, upd_ne (ne_of_none h3 hp), h3] at hp2; cases hp2
      have hp2' : H2 p2 = none := by rw [upd_ne n1] at hp2; exact hp2
      have hHp : H p2 = none := by
        cases q : H p2 with
        | none => rfl
        | some u => rw [h1 p2 u n0 q] at hp2'; cases hp2'
      rw [htk]
      exact TrL.snoc hHp (by rw [upd_ne n2, upd_same]) (h4.mono keep)
  · have ei : i = kvs.length := by omega
    subst ei
    rw [List.take_length] at h4
    refine .inl ⟨⟨h2, by rw [hlen]; exact Nat.le_refl _⟩, h2, ?_⟩
    -- what is known from now on
    have st : Step G H (fun b => match G b with | some x => some x | none => match H b with | some _ => none | none => H' b) (upd H' a (.dT (kvS kvs))) := by
      refine ⟨fun b u e => by show (match G b with | some x => some x | none => _) = _; rw [e], fun b u e => ?_, fun b b1 b2 => ?_⟩
      · have e : (match G b with | some x => some x | none => match H b with | some _ => none | none => H' b) = some u := e
        by_cases cc : b = a
        · subst cc; rw [hG] at e; rw [upd_same]; exact e
        · rw [upd_ne cc]
          cases q1 : G b with
          | some x => rw [q1] at e; cases e; exact h1 b _ cc (s.gh _ _ q1)
          | none =>
            rw [q1] at e
            cases q2 : H b with
            | some x => rw [q2] at e; cases e
            | none => rw [q2] at e; exact e
      · have cc : b ≠ a := fun z => by rw [z, hG] at b1; cases b1
        obtain ⟨u, hu⟩ := Option.ne_none_iff_exists'.mp b2
        refine ⟨by rw [upd_ne cc, h1 b u cc hu, hu], ?_⟩
        show (match G b with | some x => some x | none => match H b with | some _ => none | none => H' b) = none
        rw [b1, hu]
    have fresh : ∀ t, H t = none → (fun b => match G b with | some x => some x | none => match H b with | some _ => none | none => H' b) t = H' t := fun t ht => by
      show (match G t with | some x => some x | none => match H t with | some _ => none | none => H' t) = H' t
      rw [s.gh.nn ht, ht]
    exact q _ _ _ (s.step st) st.rel (.lstI ((fresh Dl hD).trans h3) (h4.rp fresh))
/-- the dict in a slot; the field of a board -/
theorem td_var {kvs : List KeyM} {i ix iy : Nat} (h : es[i]? = some (.p (.dic kvs))) (n1 : i ≠ ix) (n2 : i ≠ iy) : TdOk C es ix iy kvs (tVar i) := fun G H σ s => by
  obtain ⟨o, e, v, rfl, r⟩ := s.ok i _ h
  simp only [Rp] at r
  obtain ⟨a, rfl, hG⟩ := r
  exact ⟨a, hG, fun σ' H' Q off _ q => ⟨_, (off i (by simp [n1, n2])).trans e, q⟩⟩
theorem td_fld {w h : Int} {kvs : List KeyM} {i ix iy : Nat} (cl : Cls K C) (na : NoAttr K C "kinds") (hi : es[i]? = some (.p (.brd w h kvs))) (n1 : i ≠ ix) (n2 : i ≠ iy) : TdOk C es ix iy kvs (tFld K (tVar i) "kinds") := fun G H σ s => by
  obtain ⟨o, e, v, rfl, r⟩ := s.ok i _ hi
  simp only [Rp] at r
  obtain ⟨a, dx, d, rfl, h1, h2⟩ := r
  have hda : a ≠ d := fun z => by rw [z, h2] at h1; cases h1
  exact ⟨d, h2, fun σ' H' Q off hb q => ⟨_, (off i (by simp [n1, n2])).trans e, a, C, dx, _, _, rfl, hb _ _ hda h1, cl, na, flds_kinds _ _ _, q⟩⟩
end
theorem pe_fldK {X : Cx} {e : Expr} {f : Str} {pos : Pos} {ta : TE} (K : PySem.W.Frag) (hK : X.K = K) (he : PE X e ta) (hb : attributeBase e f X.env (eval e X.env) = eval e X.env) : PE X (.Attribute e f pos) (tFld K ta f) := by
  subst hK; exact pe_fld he hb
/-! ### the sorted list of the mirrors -/
def keyAt (H : Hp) (v : V) : KeyM := match v with
  | .ref t => match H t with
    | some (.tup [.int x, .int y, .str z]) => ((x, y), z)
    | _ => ((0, 0), "")
  | _ => ((0, 0), "")
theorem rp_key {C : Addr} {G H : Hp} (e : Ex G H) : ∀ {kvs : List KeyM} {vs : List V}, RpL C G (kvs.map encT) vs → vs.map (keyAt H) = kvs ∧ ∀ v ∈ vs, ∃ t, v = V.ref t ∧ G t = some (.tup [.int (keyAt H v).1.1, .int (keyAt H v).1.2, .str (keyAt H v).2])
  | [], _, h => by simp only [List.map_nil, RpL] at h; subst h; exact ⟨rfl, fun v hv => by cases hv⟩
  | q :: kvs, _, h => by
    rw [List.map_cons] at h
    simp only [RpL] at h
    obtain ⟨v, r, rfl, h1, h2⟩ := h
    obtain ⟨a1, a2⟩ := rp_key e h2
    simp only [encT, Rp, RpL] at h1
    obtain ⟨t, vs, rfl, ht, x1, r1, rfl, rfl, x2, r2, rfl, rfl, x3, r3, rfl, rfl, rfl⟩ := h1
    have ek : keyAt H (.ref t) = q := by
      show (match H t with | some (.tup [.int x, .int y, .str z]) => ((x, y), z) | _ => ((0, 0), "")) = q
      rw [e _ _ ht]
    refine ⟨by rw [List.map_cons, a1, ek], fun v hv => ?_⟩
    rcases List.mem_cons.mp hv with e' | hv
    · subst e'; rw [ek]; exact ⟨t, rfl, ht⟩
    · exact a2 v hv
theorem lexM_tr (a b c : Sd.Mir) (h1 : lexM a b = true) (h2 : lexM b c = true) : lexM a c = true := by
  unfold lexM at *
  rw [decide_eq_true_eq] at *
  omega
theorem lexM_tot (a b : Sd.Mir) : (lexM a b || lexM b a) = true := by
  unfold lexM
  rw [Bool.or_eq_true, decide_eq_true_eq, decide_eq_true_eq]
  omega
theorem ks_of {k : Str} (h : k = "-" ∨ k = "|") : ks (decide (k = "-")) = k := by
  rcases h with e | e <;> subst e <;> decide +kernel
section
variable {C : Addr} {K : PySem.W.Frag} {es e1 : Es} {ta : TE}
theorem ev_sortM {w h : Int} {kvs : List KeyM} (k : KvOk w h kvs) (ha : EvM C ta es (.lst (kvs.map encT)) e1) : EvM C (tCB (rSortM K) (tCons ta tNil)) es (.lst ((mirs kvs).map encM)) e1 := fun G H σ Q s q =>
  ha G H σ _ s fun v G1 H1 s1 l1 r => by
    simp only [Rp] at r
    obtain ⟨a, vs, rfl, hG, rs⟩ := r
    obtain ⟨r1, r2⟩ := rp_key s1.gh rs
    have mem : ∀ v ∈ vs, keyAt H1 v ∈ kvs := fun v hv => by rw [← r1]; exact List.mem_map.mpr ⟨v, hv, rfl⟩
    refine ⟨a, vs, keyAt H1, rfl, SqL.of (s1.gh _ _ hG), fun v hv => (r2 v hv).imp fun t z => ⟨z.1, s1.gh _ _ z.2⟩, fun v hv u hu e => ?_, fun ys p hs hb hp => ?_⟩
    · -- one place, one kind
      have := k.ms.uni _ (List.mem_map.mpr ⟨_, mem v hv, rfl⟩) _ (List.mem_map.mpr ⟨_, mem u hu, rfl⟩) (congrArg Prod.fst e) (congrArg Prod.snd e)
      have h2 : decide ((keyAt H1 v).2 = "-") = decide ((keyAt H1 u).2 = "-") := congrArg Sd.Mir.ly this
      rw [← ks_of (k.kd _ (mem v hv)), ← ks_of (k.kd _ (mem u hu)), h2]
    · have hperm : ys.Perm vs := hb.perm
      have e : ys.map (fun v => mirOf (keyAt H1 v)) = mirs kvs := by
        have p1 : (ys.map (fun v => mirOf (keyAt H1 v))).Perm (kvs.map mirOf) := by
          have := (hperm.map (keyAt H1)).map mirOf
          rw [r1] at this
          rw [List.map_map] at this
          exact this
        refine List.Perm.eq_of_pairwise (le := fun a b => lexM a b = true) (fun a b ha hb' h1 h2 => ?_) ?_ (List.pairwise_mergeSort lexM_tr lexM_tot _) (p1.trans (List.mergeSort_perm _ _).symm)
        · have ma := p1.mem_iff.mp ha
          have mb := mem_mirs.mp hb'
          unfold lexM at h1 h2
          rw [decide_eq_true_eq] at h1 h2
          exact k.ms.uni a ma b mb (by omega) (by omega)
        · rw [List.pairwise_map]
          refine hs.imp fun {a b} z => ?_
          have z' : ¬ ((keyAt H1 b).1.1 < (keyAt H1 a).1.1 ∨ (keyAt H1 b).1.1 = (keyAt H1 a).1.1 ∧ (keyAt H1 b).1.2 < (keyAt H1 a).1.2) := SrtO.lexB_no.mp z
          unfold lexM
          rw [decide_eq_true_eq]
          show (keyAt H1 a).1.1 < (keyAt H1 b).1.1 ∨ (keyAt H1 a).1.1 = (keyAt H1 b).1.1 ∧ (keyAt H1 a).1.2 ≤ (keyAt H1 b).1.2
          omega
      have st := Step.new s1.gh hp (.lst ys)
      refine q _ _ _ (s1.step st) (l1.trans st.rel) (.lstI upd_same ?_)
      rw [← e]
      have : ∀ zs : List V, (∀ z ∈ zs, z ∈ vs) → RpL C (upd G1 p (.lst ys)) ((zs.map fun v => mirOf (keyAt H1 v)).map encM) zs := by
        intro zs
        induction zs with
        | nil => intro _; exact .nil
        | cons z zs ih =>
          intro hz
          have m := hz z (List.mem_cons_self ..)
          obtain ⟨t, e1, e2⟩ := r2 z m
          refine .cons ?_ (ih fun y hy => hz y (List.mem_cons_of_mem _ hy))
          have hk := ks_of (k.kd _ (mem z m))
          subst e1
          refine .tupI (st.gx _ _ e2) ?_
          simp only [RpL, Rp]
          exact ⟨_, _, rfl, rfl, _, _, rfl, rfl, _, _, rfl, congrArg V.str hk.symm, rfl⟩
      exact this ys fun z hz => hperm.mem_iff.mp hz
end
section
variable {P : Program} {w : World} {K : PySem.W.Frag} {mg : Str → Option Value} {base : Heap} {C : Addr}
theorem ok_mirs (d : DfP K C "mirrors" "Board.mirrors" s_Board_mirrors) (T : Txt K mg C) : PropOk P w K mg base C "mirrors" 1 (spP C r_mirs) := by
  refine .mk' d (fun f fd F => fn_pure F sc_Board_mirrors (fun ds d h => by cases h <;> rfl) fun cdv A outer s0 H E ds d hr h => ?_) (fun _ _ _ _ _ _ us hl => match us, hl with | [_], _ => rfl)
  cases h with
  | mk w0 h0 kvs k =>
    refine ⟨_, (pss_one (ps_ret (pe_callB cr_sortM rfl T.b_sorted (by decide +kernel) (pa_cons (pe_lock (pe_lc (own := [("x", 1), ("y", 2)]) (g := (gTup K 2 (gCons (gName 1) (gCons (gName 2) gNil)))) (tt := tYes) rfl sc_Board_mirrors.nd (pi_keys (pe_fld (pv 0) rfl)) (blkOk_by (own := [("x", 1), ("y", 2)]) (N := N_Board_mirrors) (sc := defScope s_Board_mirrors) (by decide +kernel)) (fun _ _ _ _ _ => (pg_tup rfl (pgs_cons (pg_name (i := 1) sc_Board_mirrors.nd rfl (Or.inl rfl)) (pgs_cons (pg_name (i := 2) sc_Board_mirrors.nd rfl (Or.inl rfl)) pgs_nil)))) (fun _ _ _ _ _ => pts_nil) (fun _ _ _ _ _ => (pe_tup (pa_cons (pv 1) (pa_cons (pv 2) (pa_cons (pe_dget (hu_of hr) (pe_fldK K rfl (pv 0) rfl) (pe_tup (pa_cons (pv 1) (pa_cons (pv 2) pa_nil))) (fun _ _ => rfl)) pa_nil))))))) pa_nil)))), ?_⟩
    exact rr_ret (ev_sortM k (ev_keysLc rfl (by decide) (Nat.le_of_ble_eq_true rfl) (Nat.le_of_ble_eq_true rfl) k.nd (small_line (Nat.le_trans k.ln (by decide))) (td_fld (w := w0) (h := h0) T.cl T.nK rfl (by decide) (by decide)))) rfl
end
end Sw
end
section
open PySem PySem.Spec PyProof.Rows L2 Sw Sd
local macro_rules | `(tactic| walk_at "ev") => `(tactic| first
  | with_reducible exact ev_cI
  | with_reducible exact ev_cS
  | with_reducible exact ev_cB
  | with_reducible exact ev_cN
  | with_reducible exact ea_nil
  | ((with_reducible apply ev_var); rfl)
  | ((with_reducible apply ea_cons); (· walk_at "ev"); (· walk_at "ev"))
  | ((with_reducible apply ev_add); (· walk_at "ev"); (· walk_at "ev"))
  | ((with_reducible apply ev_sub); (· walk_at "ev"); (· walk_at "ev"))
  | ((with_reducible apply ev_min2); (· walk_at "ev"); (· walk_at "ev"))
  | ((with_reducible apply ev_lt); (· walk_at "ev"); (· walk_at "ev"))
  | ((with_reducible apply ev_le); (· walk_at "ev"); (· walk_at "ev"))
  | ((with_reducible apply ev_gt); (· walk_at "ev"); (· walk_at "ev"))
  | ((with_reducible apply ev_ge); (· walk_at "ev"); (· walk_at "ev"))
  | ((with_reducible apply ev_eqI); (· walk_at "ev"); (· walk_at "ev"))
  | ((with_reducible apply ev_eqS); (· walk_at "ev"); (· walk_at "ev"))
  | ((with_reducible apply ev_eqB); (· walk_at "ev"); (· walk_at "ev"))
  | ((with_reducible apply ev_neI); (· walk_at "ev"); (· walk_at "ev"))
  | ((with_reducible apply ev_neg); (· walk_at "ev"))
  | ((with_reducible apply ev_isN); (· walk_at "ev"))
  | ((with_reducible apply ev_notN); (· walk_at "ev"))
  | ((with_reducible apply et_test); (· walk_at "ev"))
  | ((with_reducible apply et_B); (· walk_at "ev"))
  | ((with_reducible apply et_not); (· walk_at "ev"))
  | ((with_reducible apply ev_tup); (· walk_at "ev"); (· exact Nat.le_of_ble_eq_true rfl))
  | ((with_reducible apply ev_lst); (· walk_at "ev"); (· exact Nat.le_of_ble_eq_true rfl))
  | ((with_reducible apply ev_ix); (· walk_at "ev"); (· walk_at "ev"); (· rfl); (· rfl))
  | ((with_reducible apply ev_mulS); (· walk_at "ev"); (· walk_at "ev"); (· first | exact .inl ⟨by decide, by decide⟩ | exact .inr ⟨by decide, by decide⟩))
  | ((with_reducible apply ev_mulW); (· walk_at "ev"); (· walk_at "ev"); (· walk_at "sd"))
  | ((with_reducible apply ev_mod); (· walk_at "ev"); (· walk_at "ev"); (· walk_at "sd"))
  | ((with_reducible apply ev_div); (· walk_at "ev"); (· walk_at "ev"); (· walk_at "sd"))
  | ((with_reducible apply ev_prop); (· walk_at "ev"); (· walk_at "pr"))
  | ((with_reducible apply ev_chain); (· walk_at "ev"); (· walk_at "ev"); (· walk_at "ev"); (· exact r2_cmp); (· exact r2_cmp))
  | ((with_reducible apply ev_call); (· walk_at "ev"); (· walk_at "rel")))
local macro_rules | `(tactic| walk_at "sd") => `(tactic| first | assumption | decide | omega)
local macro_rules | `(tactic| walk_at "ret") => `(tactic| (apply rr_ret; (· walk_at "ev"); (try rfl)))
local macro_rules | `(tactic| walk_at "asg") => `(tactic| (apply run_asg; (· walk_at "ev"); (· walk_at "tgt")))
local macro_rules | `(tactic| walk_at "tgt") => `(tactic| first
  | with_reducible exact eg_name
  | ((apply eg_tup); (· rfl); (· walk_at "tgt"))
  | with_reducible exact egs_nil
  | ((with_reducible apply egs_cons); (· walk_at "tgt"); (· walk_at "tgt")))
local macro_rules | `(tactic| walk_at "set") => `(tactic| (apply rr_seq; (· walk_at "asg")))
local macro_rules | `(tactic| walk_at "par") => `(tactic| (apply rr_seq; (· apply run_par; walk_at "ev")))
local macro_rules | `(tactic| walk_at "asgE") => `(tactic| (apply run_eq; (· walk_at "asg"); (· rfl)))
local macro_rules | `(tactic| walk_at "parE") => `(tactic| (apply run_eq; (· apply run_par; walk_at "ev"); (· rfl)))
local macro_rules | `(tactic| walk_at "evr") => `(tactic| first | (apply et_is; (· walk_at "ev"); (· rfl)) | (apply ev_is; (· walk_at "ev"); (· rfl)))
local macro_rules | `(tactic| walk_at "drop") => `(tactic| (apply rr_seq; (· apply run_drop; walk_at "ev")))

namespace Sw
open Sd
local macro_rules | `(tactic| walk_at "rel") => `(tactic| first
  | exact r_go.mk _ _ _ _ _ _ _ (by assumption) (by assumption) (by assumption) (by assumption) (by assumption)
  | exact r_tog.mk _ _ _ _ _ _ (by assumption) (by assumption) (by assumption) (by assumption)
  | exact r_cnt.mk _ _ _ _ (by assumption) (by assumption)
  | exact r_loc.mk _ _ _ _ (by assumption) (by assumption)
  | exact r_csq.mk _ _ _ _ (by assumption)
  | exact r_cway.mk _ _ _ _ _ (by assumption) (by assumption)
  | exact r_frm.mk _ _ _ (by assumption)
  | exact r_legs.mk _ (by assumption) _ _ _ (by assumption)
  | exact r_str.mk _ _ _ _ _ _ (by assumption) (by assumption) (by assumption) (by assumption)
  | exact r_flen.mk _ _ _ _ _ (by assumption) (by assumption) (by assumption)
  | exact r_steps.mk3 _ (by assumption) _ _ _ _ _
  | exact r_steps.mk2 _ (by assumption) _ _ _ _
  | exact r_tom.mk _ (by assumption) _ _
  | exact r_from.mk _ (by assumption) _ _ _ _ (by assumption)
  | exact r_behind.mk _ _ _ _
  | exact r_gcd.mk _ _ (by assumption) (by assumption) (by assumption) (by assumption)
  | exact r_cls.mk _ _ _ (by assumption)
  | exact r_fsq.mk _ _ (by assumption)
  | exact r_fpt.mk _ _ (by assumption)
  | exact r_pts.mk _ _
  | exact r_unf.mk _ _ _ _)
local macro_rules | `(tactic| walk_at "pr") => `(tactic| first
  | exact r_w.mk _ _ _
  | exact r_h.mk _ _ _
  | exact r_mirs.mk _ _ _ (by assumption))

local macro_rules | `(tactic| walk_at "rel") => `(tactic| first
  | exact r_oth.mk _
  | exact r_mvp.mk _ _ _ _ _ _ (by assumption))
/-- the entries of a turned board -/
def kvM (m : Mir) : KeyM := ((m.x, m.y), ks m.ly)
def turnK (t : Tn) (w h : Int) (kvs : List KeyM) : List KeyM := (mirs kvs).map fun m => kvM (tmir t w h m)
theorem kvM_mir (m : Mir) : mirOf (kvM m) = m := by
  obtain ⟨x, y, ly⟩ := m
  cases ly
  · show (⟨x, y, decide (("|" : Str) = "-")⟩ : Mir) = _
    rw [show decide (("|" : Str) = "-") = false by decide +kernel]
  · show (⟨x, y, decide (("-" : Str) = "-")⟩ : Mir) = _
    rw [show decide (("-" : Str) = "-") = true by decide +kernel]
theorem turn_mirs {t : Tn} {w h : Int} {kvs : List KeyM} : TurnedMs t w h (mirs kvs) ((turnK t w h kvs).map mirOf) := fun m' => by
  unfold turnK
  rw [List.map_map, List.mem_map]
  constructor
  · rintro ⟨m, hm, e⟩
    exact ⟨m, hm, by rw [← e]; exact kvM_mir _⟩
  · rintro ⟨m, hm, rfl⟩
    exact ⟨m, hm, kvM_mir _⟩
theorem turn_mirs' {t : Tn} {w h : Int} {kvs : List KeyM} : TurnedMs t w h (mirs kvs) (mirs (turnK t w h kvs)) := fun m' => mem_mirs.trans (turn_mirs m')
theorem mpt_inj {t : Tn} {w h : Int} {p q : P2} (e : mpt t w h p = mpt t w h q) : p = q := by
  obtain ⟨p1, p2⟩ := p
  obtain ⟨q1, q2⟩ := q
  obtain ⟨fx, fy, ex⟩ := t
  cases fx <;> cases fy <;> cases ex <;> simp [mpt] at e ⊢ <;> omega
theorem KvOk.turn {t : Tn} {w h : Int} {kvs : List KeyM} (k : KvOk w h kvs) : KvOk (tw t w h) (th t w h) (turnK t w h kvs) := by
  refine ⟨turned_ok k.msOk turn_mirs, ?_, ?_, ?_, ?_, ?_⟩
  · have nd : ((mirs kvs).map fun m => (m.x, m.y)).Nodup := by
      have p : ((mirs kvs).map fun m => (m.x, m.y)).Perm ((kvs.map mirOf).map fun m => (m.x, m.y)) := (List.mergeSort_perm _ _).map _
      refine p.nodup_iff.mpr ?_
      rw [List.map_map]
      exact k.nd
    unfold turnK
    rw [List.map_map]
    have : ∀ l : List Mir, (l.map fun m => (m.x, m.y)).Nodup → (l.map ((fun q : KeyM => q.1) ∘ fun m => kvM (tmir t w h m))).Nodup := by
      intro l
      induction l with
      | nil => intro _; exact List.nodup_nil
      | cons m l ih =>
        intro hn
        rw [List.map_cons, List.nodup_cons] at hn ⊢
        refine ⟨fun hm => hn.1 ?_, ih hn.2⟩
        obtain ⟨m', hm', e⟩ := List.mem_map.mp hm
        have e2 : mpt t w h (m'.x, m'.y) = mpt t w h (m.x, m.y) := e
        exact List.mem_map.mpr ⟨m', hm', mpt_inj e2⟩
    exact this _ nd
  · intro q hq
    obtain ⟨m, _, rfl⟩ := List.mem_map.mp hq
    show ks _ = _ ∨ ks _ = _
    cases (tmir t w h m).ly
    · exact .inr rfl
    · exact .inl rfl
  · obtain ⟨fx, fy, ex⟩ := t; have := k.wb; have := k.hb; cases ex <;> simp [tw] <;> omega
  · obtain ⟨fx, fy, ex⟩ := t; have := k.wb; have := k.hb; cases ex <;> simp [th] <;> omega
  · unfold turnK; rw [List.length_map, mirs_len]; exact k.ln
inductive r_trn : List D → D → Prop where
  | mk (way : Str) (t : Tn) (w h : Int) (kvs : List KeyM) (ht : WayT way t) (k : KvOk w h kvs) : r_trn [.brd w h kvs, .str way] (.brd (tw t w h) (th t w h) (turnK t w h kvs))
def wayL : List Str := ["same", "quarter", "half", "back", "flip", "mirror", "cross", "anti"]
def exL : List Str := ["quarter", "back", "cross", "anti"]
theorem way_in {way : Str} {t : Tn} (h : WayT way t) : decide (way ∈ wayL) = true := by cases h <;> decide +kernel
theorem way_ex {way : Str} {t : Tn} (h : WayT way t) : decide (way ∈ exL) = t.ex := by cases h <;> decide +kernel
section
variable {P : Program} {w : World} {K : PySem.W.Frag} {mg : Str → Option Value} {base : Heap} {C : Addr}
theorem ok_trn (d : DfM K C "turned" "Board.turned" s_Board_turned) (T : Txt K mg C) (c_mirrors : PropOk P w K mg base C "mirrors" 1 (spP C r_mirs)) (c_other_kind : CallOk P w K mg base "other_kind" 1 ["kind"] (spP C r_oth))
    (c_moved_place : CallOk P w K mg base "moved_place" 1 ["way", "width", "height", "place"] (spP C r_mvp)) (c_init : MakeOk P w K mg base C 4 ["self", "width", "height", "mirrors"] (spI C r_init)) : MethOk P w K mg base C "turned" 6 ["self", "way"] (spP C r_trn) := by
  refine .mk' d (fun f fd F => fn_pure F sc_Board_turned (fun ds d h => by cases h <;> rfl) fun cdv A outer s0 H E ds d hr h => ?_) (fun _ _ _ _ _ _ us hl => match us, hl with | [_, _], _ => rfl)
  cases h with
  | mk way t w0 h0 kvs ht k =>
    refine ⟨_, (pss_cons (ps_if (pt_cmpR op_notIn_seq (pv 1) (pe_glob (v := V.ref (He.ga K "WAYS")) rfl T.mWAYS rfl) (by rfl)) pss_never pss_nil)
      (pss_cons (ps_set (i := 2) sc_Board_turned.nd rfl (Or.inl rfl) (pe_tup (pa_cons (pe_fld (pv 0) rfl) (pa_cons (pe_fld (pv 0) rfl) pa_nil))))
      (pss_cons (ps_if (pt_cmpR op_in_seq (pv 1) (pe_glob (v := V.ref (He.ga K "EXCHANGING")) rfl T.mEXCHANGING rfl) (by rfl)) (pss_one (ps_set (i := 2) sc_Board_turned.nd rfl (Or.inl rfl) (pe_tup (pa_cons (pe_fld (pv 0) rfl) (pa_cons (pe_fld (pv 0) rfl) pa_nil))))) pss_nil)
      (pss_cons (ps_set (i := 3) sc_Board_turned.nd rfl (Or.inl rfl) (pe_lst pa_nil))
      (pss_cons (ps_for PassesOwn.never rfl (pi_list (pe_propC T c_mirrors hr (pv 0) (by decide) rfl)) (pg_tup rfl (pgs_cons (pg_name (i := 4) sc_Board_turned.nd rfl (Or.inl rfl)) (pgs_cons (pg_name (i := 5) sc_Board_turned.nd rfl (Or.inl rfl)) (pgs_cons (pg_name (i := 6) sc_Board_turned.nd rfl (Or.inl rfl)) pgs_nil))))
      (pss_cons (ps_if (pt_cmpR op_in_seq (pv 1) (pe_glob (v := V.ref (He.ga K "EXCHANGING")) rfl T.mEXCHANGING rfl) (by rfl)) (pss_one (ps_set (i := 6) sc_Board_turned.nd rfl (Or.inl rfl) (pe_callC c_other_kind hr (by decide) rfl (pa_cons (pv 6) pa_nil)))) pss_nil)
      (pss_cons (ps_set (i := 7) sc_Board_turned.nd rfl (Or.inl rfl) (pe_callC c_moved_place hr (by decide) rfl (pa_cons (pv 1) (pa_cons (pe_fld (pv 0) rfl) (pa_cons (pe_fld (pv 0) rfl) (pa_cons (pe_tup (pa_cons (pv 4) (pa_cons (pv 5) pa_nil))) pa_nil))))))
      (pss_one (ps_expr (pe_bm PySem.F.plainAttrs_list PySem.F.slot_list_append PySem.F.type_list_append mt_append (pv 3) (pa_cons (pe_tup (pa_cons (pe_ix ix_seq (pv 7) pe_int (fun _ _ => rfl)) (pa_cons (pe_ix ix_seq (pv 7) pe_int (fun _ _ => rfl)) (pa_cons (pv 6) pa_nil)))) pa_nil)))))))
      (pss_one (ps_ret (pe_makeC T c_init hr (by decide) rfl (pa_cons (pe_ix ix_seq (pv 2) pe_int (fun _ _ => rfl)) (pa_cons (pe_ix ix_seq (pv 2) pe_int (fun _ _ => rfl)) (pa_cons (pv 3) pa_nil))))))))))), ?_⟩
    have kT := k.turn (t := t)
    refine rr_skip (et_test (ev_inK (neg := true) (ss := wayL) (ev_var rfl) T.tW)) (by rw [way_in ht]; rfl) ?_
    refine rr_seq (run_asg (d := .tup [.int w0, .int h0]) (ev_tup (ea_cons (ev_wide T.cl T.nW (ev_var rfl)) (ea_cons (ev_high T.cl T.nH (ev_var rfl)) ea_nil)) (Nat.le_of_ble_eq_true rfl)) (by walk_at "tgt")) ?_
    refine rr_seq (e1 := [.p (.brd w0 h0 kvs), .p (.str way), .p (.tup [.int (tw t w0 h0), .int (th t w0 h0)]), .no, .no, .no, .no, .no]) ?sz ?_
    case sz =>
      cases he : t.ex with
      | true =>
        refine run_ifT (et_test (ev_inK (neg := false) (ss := exL) (ev_var rfl) T.tE)) (by rw [way_ex ht]; exact he) ?_
        refine run_eq (run_asg (d := .tup [.int h0, .int w0]) (ev_tup (ea_cons (ev_high T.cl T.nH (ev_var rfl)) (ea_cons (ev_wide T.cl T.nW (ev_var rfl)) ea_nil)) (Nat.le_of_ble_eq_true rfl)) (by walk_at "tgt")) ?_
        unfold tw th
        rw [he]
        rfl
      | false =>
        refine run_eq (run_ifF (et_test (ev_inK (neg := false) (ss := exL) (ev_var rfl) T.tE)) (by rw [way_ex ht]; exact he) run_next) ?_
        unfold tw th
        rw [he]
        rfl
    refine rr_seq run_newL ?_
    refine rr_for (xs := (mirs kvs).map encM) (Pst := fun e => ∃ a b c d, e = [.p (.brd w0 h0 kvs), .p (.str way), .p (.tup [.int (tw t w0 h0), .int (th t w0 h0)]), .oL ((turnK t w0 h0 kvs).map encT), a, b, c, d]) (ev_prop (ev_var rfl) (r_mirs.mk w0 h0 kvs k)) ?loop ?after
    case after =>
      rintro e ⟨a, b, c, d, rfl⟩
      refine rr_frL (i := 3) (ds := (turnK t w0 h0 kvs).map encT) rfl ?_
      exact rr_ret (ev_make (ds := [.int (tw t w0 h0), .int (th t w0 h0), .lst ((turnK t w0 h0 kvs).map encT)]) (by walk_at "ev") (r_init.mk _ _ _ kT)) rfl
    case loop =>
      have hl : (mirs kvs).length ≤ 20 := by rw [mirs_len]; exact k.ln
      unfold turnK
      refine (?_ : ∀ (l : List Mir) (ds : List D) (a b c d : Sl), ds.length + l.length ≤ 20 → ∃ e, LoopR C _ _ (l.map encM) [.p (.brd w0 h0 kvs), .p (.str way), .p (.tup [.int (tw t w0 h0), .int (th t w0 h0)]), .oL ds, a, b, c, d] (.nx e) ∧
        ∃ a b c d, e = [.p (.brd w0 h0 kvs), .p (.str way), .p (.tup [.int (tw t w0 h0), .int (th t w0 h0)]), .oL (ds ++ (l.map fun m => kvM (tmir t w0 h0 m)).map encT), a, b, c, d]) (mirs kvs) [] .no .no .no .no (by show 0 + _ ≤ 20; omega)
      intro l
      induction l with
      | nil => intro ds a b c d _; exact ⟨_, rfl, a, b, c, d, by rw [List.map_nil, List.map_nil, List.append_nil]⟩
      | cons m l ih =>
        intro ds a b c d hd
        rw [List.length_cons] at hd
        obtain ⟨mx, my, ly⟩ := m
        obtain ⟨e, h1, h2⟩ := ih (ds ++ [encT (kvM (tmir t w0 h0 ⟨mx, my, ly⟩))]) (.p (.int mx)) (.p (.int my)) (.p (.str (ks (if t.ex then !ly else ly)))) (.p (dP (mpt t w0 h0 (mx, my)))) (by rw [List.length_append, List.length_singleton]; omega)
        rw [List.append_assoc] at h2
        refine ⟨e, ⟨_, by walk_at "tgt", .nx _, ?_, h1⟩, h2⟩
        have hlen : ds.length < sizeLine := small_line (by omega)
        refine run_seq (e1 := [.p (.brd w0 h0 kvs), .p (.str way), .p (.tup [.int (tw t w0 h0), .int (th t w0 h0)]), .oL ds, .p (.int mx), .p (.int my), .p (.str (ks (if t.ex then !ly else ly))), d]) ?kd ?_
        case kd =>
          cases he : t.ex with
          | true =>
            exact run_ifT (et_test (ev_inK (neg := false) (ss := exL) (ev_var rfl) T.tE)) (by rw [way_ex ht]; exact he) (run_eq (run_asg (ev_call (ds := [.str (ks ly)]) (ea_cons (ev_var rfl) ea_nil) (r_oth.mk ly)) eg_name) rfl)
          | false =>
            exact run_ifF (et_test (ev_inK (neg := false) (ss := exL) (ev_var rfl) T.tE)) (by rw [way_ex ht]; exact he) run_next
        refine run_seq (run_asg (d := dP (mpt t w0 h0 (mx, my))) (ev_call (ds := [.str way, .int w0, .int h0, .tup [.int mx, .int my]]) (ea_cons (ev_var rfl) (ea_cons (ev_wide T.cl T.nW (ev_var rfl)) (ea_cons (ev_high T.cl T.nH (ev_var rfl)) (ea_cons (by walk_at "ev") ea_nil)))) (r_mvp.mk way t w0 h0 mx my ht)) (by walk_at "tgt")) ?_
        refine run_eq (run_append (d := encT (kvM (tmir t w0 h0 ⟨mx, my, ly⟩))) (ev_is (d := .tup [.int (mpt t w0 h0 (mx, my)).1, .int (mpt t w0 h0 (mx, my)).2, .str (ks (if t.ex then !ly else ly))]) (by walk_at "ev") rfl) rfl hlen) rfl
end
end Sw
end
section
open PySem PySem.Spec PyProof.Rows L2 Sw Sd
local macro_rules | `(tactic| walk_at "ev") => `(tactic| first
  | with_reducible exact ev_cI
  | with_reducible exact ev_cS
  | with_reducible exact ev_cB
  | with_reducible exact ev_cN
  | with_reducible exact ea_nil
  | ((with_reducible apply ev_var); rfl)
  | ((with_reducible apply ea_cons); (· walk_at "ev"); (· walk_at "ev"))
  | ((with_reducible apply ev_add); (· walk_at "ev"); (· walk_at "ev"))
  | ((with_reducible apply ev_sub); (· walk_at "ev"); (· walk_at "ev"))
  | ((with_reducible apply ev_min2); (· walk_at "ev"); (· walk_at "ev"))
  | ((with_reducible apply ev_lt); (· walk_at "ev"); (· walk_at "ev"))
  | ((with_reducible apply ev_le); (· walk_at "ev"); (· walk_at "ev"))
  | ((with_reducible apply ev_gt); (· walk_at "ev"); (· walk_at "ev"))
  | ((with_reducible apply ev_ge); (· walk_at "ev"); (· walk_at "ev"))
  | ((with_reducible apply ev_eqI); (· walk_at "ev"); (· walk_at "ev"))
  | ((with_reducible apply ev_eqS); (· walk_at "ev"); (· walk_at "ev"))
  | ((with_reducible apply ev_eqB); (· walk_at "ev"); (· walk_at "ev"))
  | ((with_reducible apply ev_neI); (· walk_at "ev"); (· walk_at "ev"))
  | ((with_reducible apply ev_neg); (· walk_at "ev"))
  | ((with_reducible apply ev_isN); (· walk_at "ev"))
  | ((with_reducible apply ev_notN); (· walk_at "ev"))
  | ((with_reducible apply et_test); (· walk_at "ev"))
  | ((with_reducible apply et_B); (· walk_at "ev"))
  | ((with_reducible apply et_not); (· walk_at "ev"))
  | ((with_reducible apply ev_tup); (· walk_at "ev"); (· exact Nat.le_of_ble_eq_true rfl))
  | ((with_reducible apply ev_lst); (· walk_at "ev"); (· exact Nat.le_of_ble_eq_true rfl))
  | ((with_reducible apply ev_ix); (· walk_at "ev"); (· walk_at "ev"); (· rfl); (· rfl))
  | ((with_reducible apply ev_mulS); (· walk_at "ev"); (· walk_at "ev"); (· first | exact .inl ⟨by decide, by decide⟩ | exact .inr ⟨by decide, by decide⟩))
  | ((with_reducible apply ev_mulW); (· walk_at "ev"); (· walk_at "ev"); (· walk_at "sd"))
  | ((with_reducible apply ev_mod); (· walk_at "ev"); (· walk_at "ev"); (· walk_at "sd"))
  | ((with_reducible apply ev_div); (· walk_at "ev"); (· walk_at "ev"); (· walk_at "sd"))
  | ((with_reducible apply ev_prop); (· walk_at "ev"); (· walk_at "pr"))
  | ((with_reducible apply ev_chain); (· walk_at "ev"); (· walk_at "ev"); (· walk_at "ev"); (· exact r2_cmp); (· exact r2_cmp))
  | ((with_reducible apply ev_call); (· walk_at "ev"); (· walk_at "rel")))
local macro_rules | `(tactic| walk_at "sd") => `(tactic| first | assumption | decide | omega)
local macro_rules | `(tactic| walk_at "ret") => `(tactic| (apply rr_ret; (· walk_at "ev"); (try rfl)))
local macro_rules | `(tactic| walk_at "asg") => `(tactic| (apply run_asg; (· walk_at "ev"); (· walk_at "tgt")))
local macro_rules | `(tactic| walk_at "tgt") => `(tactic| first
  | with_reducible exact eg_name
  | ((apply eg_tup); (· rfl); (· walk_at "tgt"))
  | with_reducible exact egs_nil
  | ((with_reducible apply egs_cons); (· walk_at "tgt"); (· walk_at "tgt")))
local macro_rules | `(tactic| walk_at "set") => `(tactic| (apply rr_seq; (· walk_at "asg")))
local macro_rules | `(tactic| walk_at "par") => `(tactic| (apply rr_seq; (· apply run_par; walk_at "ev")))
local macro_rules | `(tactic| walk_at "asgE") => `(tactic| (apply run_eq; (· walk_at "asg"); (· rfl)))
local macro_rules | `(tactic| walk_at "parE") => `(tactic| (apply run_eq; (· apply run_par; walk_at "ev"); (· rfl)))
local macro_rules | `(tactic| walk_at "evr") => `(tactic| first | (apply et_is; (· walk_at "ev"); (· rfl)) | (apply ev_is; (· walk_at "ev"); (· rfl)))
local macro_rules | `(tactic| walk_at "drop") => `(tactic| (apply rr_seq; (· apply run_drop; walk_at "ev")))

namespace Sw
section
variable {C : Addr} {K : PySem.W.Frag} {es e1 e2 : Es} {te ta : TE} {g : TG}
/-- [e for target in range(n)] -/
theorem ev_lcR {ys : List D} {m : Int} {tr : TA} {vs : List Nat} (h : EvA C tr es [.int m] e1) (m0 : 0 ≤ m) (m1 : m < 2 ^ 62) (hn : NoAt e1 vs) (k : LcR C g ta vs ((List.range m.toNat).map fun (i : Nat) => D.int (i : Int)) e1 ys e2) (hn2 : NoAt e2 vs) (hy : ys.length < sizeLine) :
    EvM C (tLc (iRng1 tr) g tYes ta vs) es (.lst ys) e2 := fun G H σ Q s q =>
  h G H σ _ s fun v G1 H1 s1 l1 r => by
    simp only [RpL, Rp] at r
    obtain ⟨_, _, rfl, rfl, rfl⟩ := r
    refine ⟨m, rfl, by omega, m1, fun Dl hD => ?_⟩
    obtain ⟨sw, ow⟩ := s1.wipe (σ' := wipe σ vs) hn (wipe_length σ vs) fun i hi => wipe_other hi
    have notOw : ¬ Ow e1 (wipe σ vs) Dl := fun ⟨i, sl, e, w, q2⟩ => by
      obtain ⟨o, e3, ho⟩ := sw.ok i sl e
      obtain ⟨b, u, e4, _, e5⟩ := ho.adr w
      rw [e4, q2] at e3
      cases e3
      rw [hD] at e5; cases e5
    have start : SR C G1 (upd H1 Dl (.lst [])) e1 (wipe σ vs) := sw.off (s1.gh.nn hD) notOw
    refine lc_range (lo := 0) (n := m.toNat) (fun i H' => ∃ G' e' yd yr wd, SR C G' H' e' (wipe σ vs) ∧ Ex G1 G' ∧ (∀ a, a ≠ Dl → G1 a = none → H1 a ≠ none → ¬ Ow e1 (wipe σ vs) a → H' a = H1 a ∧ G' a = none ∧ ¬ Ow e' (wipe σ vs) a) ∧
      G' Dl = none ∧ ¬ Ow e' (wipe σ vs) Dl ∧ H' Dl = some (.lst wd) ∧ RpL C G' yd wd ∧ ys = yd ++ yr ∧ NoAt e' vs ∧ LcR C g ta vs (((List.range m.toNat).map fun (i : Nat) => D.int (i : Int)).drop i) e' yr e2)
      ⟨G1, e1, [], ys, [], start, Ex.rfl', fun a h0 h1 h2 h3 => ⟨upd_ne h0, h1, h3⟩, s1.gh.nn hD, notOw, upd_same, .nil, rfl, hn, k⟩ ?_ ?_
    · rintro i H' hi ⟨G', e', yd, yr, wd, s', gx, kp, hG', hO', hH', rd, ey, hn', k'⟩
      have ed : ((List.range m.toNat).map fun (i : Nat) => D.int (i : Int)).drop i = D.int (i : Int) :: ((List.range m.toNat).map fun (i : Nat) => D.int (i : Int)).drop (i + 1) := by
        rw [List.drop_eq_getElem_cons (by simpa using hi)]
        simp
      rw [ed] at k'
      obtain ⟨e3, y, e4, e5, r, hgx, hy1, er, hn5, hlen5, hoff5, k2⟩ := k'
      refine hgx G' H' (wipe σ vs) _ _ s' (by simp only [Rp]; rw [Int.zero_add]) fun σ2 s2 l2 hl2 ho2 => ?_
      refine ⟨(wipe_same hl2 ho2).trans (wipe_wipe σ vs), ?_⟩
      show ta σ2 H' _
      refine hy1 G' H' σ2 _ s2 fun v4 G4 H4 s4 l4 r4 => ?_
      have l24 := l2.trans l4
      obtain ⟨d1, d2, d3⟩ := l24.kp Dl hG' (by rw [hH']; exact Option.some_ne_none _) hO'
      obtain ⟨s5, ow5⟩ := s4.weak (e1 := e5) hlen5 fun j sl e => by
        by_cases c : j ∈ vs
        · exact .inl (hn5 j c sl e)
        · rw [hoff5 j c] at e; exact .inr e
      obtain ⟨s6, ow6⟩ := s5.wipe (σ' := wipe σ vs) hn5 hl2.symm fun j hj => (ho2 j hj).symm
      have back : ∀ a, Ow e5 (wipe σ vs) a → Ow e4 σ2 a := fun a z => ow5 a ((ow6 a).mp z)
      refine ⟨wd, d1.trans hH', ?_, ?_⟩
      · have h1 := rd.length
        have h2 : ys.length = yd.length + yr.length := by rw [ey, List.length_append]
        rw [er, List.length_cons] at h2
        omega
      · refine ⟨G4, e5, yd ++ [y], r, wd ++ [v4], s6.off d2 fun z => d3 (back _ z), gx.trans l24.gx, fun a h0 h1 h2 h3 => ?_, d2, fun z => d3 (back _ z), upd_same, (rd.mono l24.gx).append (.one r4), by rw [ey, er, List.append_assoc]; rfl, hn5, k2⟩
        obtain ⟨p1, p2, p3⟩ := kp a h0 h1 h2 h3
        obtain ⟨p4, p5, p6⟩ := l24.kp a p2 (by rw [p1]; exact h2) p3
        exact ⟨by rw [upd_ne h0, p4, p1], p5, fun z => p6 (back _ z)⟩
    · rintro H' ⟨G', e', yd, yr, wd, s', gx, kp, hG', hO', hH', rd, ey, hn', k'⟩
      rw [List.drop_eq_nil_of_le (by simp)] at k'
      obtain ⟨e5, e6⟩ : yr = [] ∧ e2 = e' := k'
      subst e6
      rw [e5, List.append_nil] at ey
      subst ey
      obtain ⟨s7, ow7⟩ := s'.wipe (σ' := σ) hn' (wipe_length σ vs).symm fun j hj => (wipe_other hj).symm
      have s8 := s7.frz hG' hH' fun z => hO' ((ow7 _).mp z)
      refine q _ _ _ s8 (l1.trans ⟨gx.trans (Ex.new hG'), fun a h1 h2 h3 => ?_⟩) (.lstI upd_same (rd.mono (Ex.new hG')))
      have h0 : a ≠ Dl := fun e => h2 (by rw [e]; exact hD)
      obtain ⟨p1, p2, p3⟩ := kp a h0 h1 h2 fun z => h3 ((ow a).mp z)
      exact ⟨p1, by rw [upd_ne h0]; exact p2, fun z => p3 ((ow7 a).mp z)⟩

end
open Sd
local macro_rules | `(tactic| walk_at "rel") => `(tactic| first
  | exact r_go.mk _ _ _ _ _ _ _ (by assumption) (by assumption) (by assumption) (by assumption) (by assumption)
  | exact r_tog.mk _ _ _ _ _ _ (by assumption) (by assumption) (by assumption) (by assumption)
  | exact r_cnt.mk _ _ _ _ (by assumption) (by assumption)
  | exact r_loc.mk _ _ _ _ (by assumption) (by assumption)
  | exact r_csq.mk _ _ _ _ (by assumption)
  | exact r_cway.mk _ _ _ _ _ (by assumption) (by assumption)
  | exact r_frm.mk _ _ _ (by assumption)
  | exact r_legs.mk _ (by assumption) _ _ _ (by assumption)
  | exact r_str.mk _ _ _ _ _ _ (by assumption) (by assumption) (by assumption) (by assumption)
  | exact r_flen.mk _ _ _ _ _ (by assumption) (by assumption) (by assumption)
  | exact r_steps.mk3 _ (by assumption) _ _ _ _ _
  | exact r_steps.mk2 _ (by assumption) _ _ _ _
  | exact r_tom.mk _ (by assumption) _ _
  | exact r_from.mk _ (by assumption) _ _ _ _ (by assumption)
  | exact r_behind.mk _ _ _ _
  | exact r_gcd.mk _ _ (by assumption) (by assumption) (by assumption) (by assumption)
  | exact r_cls.mk _ _ _ (by assumption)
  | exact r_fsq.mk _ _ (by assumption)
  | exact r_fpt.mk _ _ (by assumption)
  | exact r_pts.mk _ _
  | exact r_unf.mk _ _ _ _)
local macro_rules | `(tactic| walk_at "pr") => `(tactic| first
  | exact r_w.mk _ _ _
  | exact r_h.mk _ _ _
  | exact r_mirs.mk _ _ _ (by assumption))

/-! ### a def that gives a new list of one number -/
def spW (C : Addr) (rel : List D → Int → Prop) : Sp := fun vs H Q _ => ∃ G ds N, Ex G H ∧ RpL C G ds vs ∧ rel ds N ∧ ∀ p G' H', Step G H G' H' → H' p = none → Q (.ref p) (upd H' p (.lst [.int N]))
def RunW (C : Addr) (t : TS) (es : Es) (N : Int) : Prop := ∀ (W : Ends) G H σ, SR C G H es σ → (∀ p G' H' σ' e', SR C G' H' e' σ' → Rel G H es σ G' H' e' σ' → H' p = none → W.rt (.ref p) (upd H' p (.lst [.int N]))) → t W σ H
section
variable {C : Addr} {es e1 : Es} {t u : TS} {c : TT} {b : Bool} {N : Int} {i : Nat} {te : TE}
theorem rw_seq (h : Run C t es (.nx e1)) (k : RunW C u e1 N) : RunW C (tSeq t u) es N := fun W G H σ s q =>
  h { W with nx := u W } G H σ s fun G1 H1 σ1 s1 l1 => k W G1 H1 σ1 s1 fun p G2 H2 σ2 e2 s2 l2 hp => q p G2 H2 σ2 e2 s2 (l1.trans l2) hp
theorem rw_ret (h : EvM C te es (.int N) e1) : RunW C (tRet (tLst (tCons te tNil))) es N := fun W G H σ s q =>
  h G H σ _ s fun v G1 H1 s1 l1 r => by
    simp only [Rp] at r
    subst r
    exact ⟨Nat.le_of_ble_eq_true rfl, fun p hp => q p G1 H1 σ e1 s1 l1 hp⟩
theorem rw_take (h : EvT C c es b e1) (e : b = true) (k : RunW C t e1 N) : RunW C (tSeq (tIfS c t tNext) u) es N := fun W G H σ s q => by
  subst e
  refine h G H σ _ s fun G1 H1 s1 l1 => ?_
  rw [if_pos rfl]
  exact k { W with nx := u W } G1 H1 σ s1 fun p G2 H2 σ2 e2 s2 l2 hp => q p G2 H2 σ2 e2 s2 (l1.trans l2) hp
theorem rw_skip (h : EvT C c es b e1) (e : b = false) (k : RunW C u e1 N) : RunW C (tSeq (tIfS c t tNext) u) es N := rw_seq (run_ifF h e run_next) k
theorem run_well {rel : List D → Int → Prop} {ds : List D} {E : XK} {ta : TA} (h : EvA C ta es ds es) (hr : rel ds N) : Run C (tAsg (tCall (spW C rel) [] E ta) (gName i)) es (.nx (es.set i (.oL [.int N]))) := fun W G H σ s q =>
  h G H σ _ s fun vs G1 H1 s1 l1 r => by
    show spW C rel (vs ++ []) H1 _ E
    rw [List.append_nil]
    refine ⟨G1, ds, N, s1.gh, r, hr, fun p G2 H2 st hp => ?_⟩
    have s2 := s1.step st
    obtain ⟨s3, l3⟩ := s2.own (i := i) (sl := .oL [.int N]) hp ⟨p, _, rfl, s2.gh.nn hp, upd_same, by simp only [RpL, Rp]; exact ⟨_, _, rfl, rfl, rfl⟩⟩
    exact q _ _ _ s3 ((l1.trans st.rel).trans l3)
end
section
variable {P : Program} {w : World} {K : PySem.W.Frag} {mg : Str → Option Value} {base : Heap} {C : Addr}
theorem fn_well {x qual : Str} {st : Stmt} {f : Addr} {fd : FuncData} {N ps : List Str} {k : Nat} {rel : List D → Int → Prop} (F : Hk.Fn K x qual st f fd) (S : FnScope N ps (defScope st)) (hl : ∀ ds d, rel ds d → ds.length = ps.length)
    (hb : ∀ (cdv : Value) (A : Around) (outer : List Env) (s : Shared) (H : Hp) (E : XK) (ds : List D) (n : Int), Room k (A.deeper (envOfC qual (defScope st) s.heap.objs.size f cdv)) → rel ds n →
      ∃ t, PSs (cxOf CX0 P w K mg base N qual (defScope st) f cdv A outer s H E).nox (defBody st) t ∧ RunW C t (slots N ds) n) : FnOk P w K mg base CX0 (k + 1) f fd ps (spW C rel) := by
  refine F.ok S (fun vs H Q E ⟨G, ds, d, e, r, h, _⟩ => by rw [r.length]; exact hl ds d h) fun cdv A outer s H vs Q E hr ⟨G, ds, d, e, r, h, q⟩ => ?_
  obtain ⟨t, h1, h2⟩ := hb cdv A outer s H E ds d hr h
  refine ⟨t, h1.nox, h2 _ G H (L2.start N vs) (r.start e) fun p G' H' σ' e' s' l' hp => ?_⟩
  exact q p G' H' ⟨l'.gx, s'.gh, fun a h1 h2 => ⟨(l'.kp a h1 h2 notOw_slots).1, (l'.kp a h1 h2 notOw_slots).2.1⟩⟩ hp
/-! ### _law_pick -/
inductive r_pick : Int → List D → D → Int → Prop where
  | mk (N many : Int) (h : 0 < many) (hb : many < 2 ^ 210) : r_pick N [.int many] (.int (N % many)) (N / many)
theorem ok_pick (d : Df K mg "_law_pick" s_law_pick) (T : Txt K mg C) : CallOk P w K mg base "_law_pick" 1 ["_law_well_here", "_law_many"] (spM C r_pick) := by
  refine .mk' d (fun f fd F => fn_mut F sc_law_pick (fun n ds d n' h => by cases h; rfl) fun cdv A outer s0 H E n ds d n' hr h => ?_) (fun _ _ _ _ _ _ us hl => match us, hl with | [_, _], _ => rfl)
  cases h with
  | mk many h hb =>
    refine ⟨_, (pss_cons (ps_set (i := 2) sc_law_pick.nd rfl (Or.inl rfl) (pe_op op_mod (pe_callTy call_int1 rfl T.b_int (by decide +kernel) (pa_cons (pe_ix ix_seq (pv 0) pe_int (fun _ _ => rfl)) pa_nil)) (pv 1)))
      (pss_cons (ps_asg (pe_op op_fdivW (pe_ix ix_seq (pv 0) pe_int (fun _ _ => rfl)) (pv 1)) (pg_sub (pv 0) pe_int set_list))
      (pss_one (ps_ret (pv 2))))), fun p => ⟨[.cel p [.int (n / many)], .p (.int many), .p (.int (n % many))], rfl, ?_⟩⟩
    have d1 : CDivW n many := small_div (b := 210) h (by omega)
    refine run_seq (run_asg (ev_mod (ev_int1 (ev_well (i := 0) (s' := .cel p [.int 0]) (N' := 0) rfl (.c p _ _))) (ev_var rfl) h) eg_name) ?_
    refine run_seq (run_setWell (i := 0) (N := n) (N' := n / many) (s' := .cel p [.int (n / many)]) rfl (.c p _ _) (ev_div (ev_well (i := 0) (s' := .cel p [.int 0]) (N' := 0) rfl (.c p _ _)) (ev_var rfl) d1)) ?_
    exact run_ret (ev_var rfl)
end
end Sw
end
section
open PySem PySem.Spec PyProof.Rows L2 Sw Sd
local macro_rules | `(tactic| walk_at "ev") => `(tactic| first
  | with_reducible exact ev_cI
  | with_reducible exact ev_cS
  | with_reducible exact ev_cB
  | with_reducible exact ev_cN
  | with_reducible exact ea_nil
  | ((with_reducible apply ev_var); rfl)
  | ((with_reducible apply ea_cons); (· walk_at "ev"); (· walk_at "ev"))
  | ((with_reducible apply ev_add); (· walk_at "ev"); (· walk_at "ev"))
  | ((with_reducible apply ev_sub); (· walk_at "ev"); (· walk_at "ev"))
  | ((with_reducible apply ev_min2); (· walk_at "ev"); (· walk_at "ev"))
  | ((with_reducible apply ev_lt); (· walk_at "ev"); (· walk_at "ev"))
  | ((with_reducible apply ev_le); (· walk_at "ev"); (· walk_at "ev"))
  | ((with_reducible apply ev_gt); (· walk_at "ev"); (· walk_at "ev"))
  | ((with_reducible apply ev_ge); (· walk_at "ev"); (· walk_at "ev"))
  | ((with_reducible apply ev_eqI); (· walk_at "ev"); (· walk_at "ev"))
  | ((with_reducible apply ev_eqS); (· walk_at "ev"); (· walk_at "ev"))
  | ((with_reducible apply ev_eqB); (· walk_at "ev"); (· walk_at "ev"))
  | ((with_reducible apply ev_neI); (· walk_at "ev"); (· walk_at "ev"))
  | ((with_reducible apply ev_neg); (· walk_at "ev"))
  | ((with_reducible apply ev_isN); (· walk_at "ev"))
  | ((with_reducible apply ev_notN); (· walk_at "ev"))
  | ((with_reducible apply et_test); (· walk_at "ev"))
  | ((with_reducible apply et_B); (· walk_at "ev"))
  | ((with_reducible apply et_not); (· walk_at "ev"))
  | ((with_reducible apply ev_tup); (· walk_at "ev"); (· exact Nat.le_of_ble_eq_true rfl))
  | ((with_reducible apply ev_lst); (· walk_at "ev"); (· exact Nat.le_of_ble_eq_true rfl))
  | ((with_reducible apply ev_ix); (· walk_at "ev"); (· walk_at "ev"); (· rfl); (· rfl))
  | ((with_reducible apply ev_mulS); (· walk_at "ev"); (· walk_at "ev"); (· first | exact .inl ⟨by decide, by decide⟩ | exact .inr ⟨by decide, by decide⟩))
  | ((with_reducible apply ev_mulW); (· walk_at "ev"); (· walk_at "ev"); (· walk_at "sd"))
  | ((with_reducible apply ev_mod); (· walk_at "ev"); (· walk_at "ev"); (· walk_at "sd"))
  | ((with_reducible apply ev_div); (· walk_at "ev"); (· walk_at "ev"); (· walk_at "sd"))
  | ((with_reducible apply ev_prop); (· walk_at "ev"); (· walk_at "pr"))
  | ((with_reducible apply ev_chain); (· walk_at "ev"); (· walk_at "ev"); (· walk_at "ev"); (· exact r2_cmp); (· exact r2_cmp))
  | ((with_reducible apply ev_call); (· walk_at "ev"); (· walk_at "rel")))
local macro_rules | `(tactic| walk_at "sd") => `(tactic| first | assumption | decide | omega)
local macro_rules | `(tactic| walk_at "ret") => `(tactic| (apply rr_ret; (· walk_at "ev"); (try rfl)))
local macro_rules | `(tactic| walk_at "asg") => `(tactic| (apply run_asg; (· walk_at "ev"); (· walk_at "tgt")))
local macro_rules | `(tactic| walk_at "tgt") => `(tactic| first
  | with_reducible exact eg_name
  | ((apply eg_tup); (· rfl); (· walk_at "tgt"))
  | with_reducible exact egs_nil
  | ((with_reducible apply egs_cons); (· walk_at "tgt"); (· walk_at "tgt")))
local macro_rules | `(tactic| walk_at "set") => `(tactic| (apply rr_seq; (· walk_at "asg")))
local macro_rules | `(tactic| walk_at "par") => `(tactic| (apply rr_seq; (· apply run_par; walk_at "ev")))
local macro_rules | `(tactic| walk_at "asgE") => `(tactic| (apply run_eq; (· walk_at "asg"); (· rfl)))
local macro_rules | `(tactic| walk_at "parE") => `(tactic| (apply run_eq; (· apply run_par; walk_at "ev"); (· rfl)))
local macro_rules | `(tactic| walk_at "evr") => `(tactic| first | (apply et_is; (· walk_at "ev"); (· rfl)) | (apply ev_is; (· walk_at "ev"); (· rfl)))
local macro_rules | `(tactic| walk_at "drop") => `(tactic| (apply rr_seq; (· apply run_drop; walk_at "ev")))

namespace Sw
open Sd
local macro_rules | `(tactic| walk_at "rel") => `(tactic| first
  | exact r_go.mk _ _ _ _ _ _ _ (by assumption) (by assumption) (by assumption) (by assumption) (by assumption)
  | exact r_tog.mk _ _ _ _ _ _ (by assumption) (by assumption) (by assumption) (by assumption)
  | exact r_cnt.mk _ _ _ _ (by assumption) (by assumption)
  | exact r_loc.mk _ _ _ _ (by assumption) (by assumption)
  | exact r_csq.mk _ _ _ _ (by assumption)
  | exact r_cway.mk _ _ _ _ _ (by assumption) (by assumption)
  | exact r_frm.mk _ _ _ (by assumption)
  | exact r_legs.mk _ (by assumption) _ _ _ (by assumption)
  | exact r_str.mk _ _ _ _ _ _ (by assumption) (by assumption) (by assumption) (by assumption)
  | exact r_flen.mk _ _ _ _ _ (by assumption) (by assumption) (by assumption)
  | exact r_steps.mk3 _ (by assumption) _ _ _ _ _
  | exact r_steps.mk2 _ (by assumption) _ _ _ _
  | exact r_tom.mk _ (by assumption) _ _
  | exact r_from.mk _ (by assumption) _ _ _ _ (by assumption)
  | exact r_behind.mk _ _ _ _
  | exact r_gcd.mk _ _ (by assumption) (by assumption) (by assumption) (by assumption)
  | exact r_cls.mk _ _ _ (by assumption)
  | exact r_fsq.mk _ _ (by assumption)
  | exact r_fpt.mk _ _ (by assumption)
  | exact r_pts.mk _ _
  | exact r_unf.mk _ _ _ _)
local macro_rules | `(tactic| walk_at "pr") => `(tactic| first
  | exact r_w.mk _ _ _
  | exact r_h.mk _ _ _
  | exact r_mirs.mk _ _ _ (by assumption))

/-! ### _law_well -/
def wPrime : Int := 170141183460469231731687303715884105727
def wStep (s : Int × Int) (k : Nat) : Int × Int := ((s.1 * s.1 * s.1 + 7 * (k : Int) + 95) % wPrime, s.2 * wPrime + (s.1 * s.1 * s.1 + 7 * (k : Int) + 95) % wPrime)
def wellN (cell : Int) : Int := if (10 : Int) ^ (18 : Int).toNat ≤ cell then cell - (10 : Int) ^ (18 : Int).toNat
  else ((List.range 16).foldl wStep ((cell * 6364136223846793005 + 95 * 1442695040888963407 + 977) % wPrime, 0)).2
inductive r_well : List D → Int → Prop where
  | mk (cell : Int) : r_well [.int cell, .int 95] (wellN cell)
theorem w_mod (x : Int) : (x % wPrime).natAbs < 2 ^ 127 := by
  have h1 := Int.emod_nonneg x (b := wPrime) (by decide)
  have h2 := Int.emod_lt_of_pos x (b := wPrime) (by decide)
  unfold wPrime at *
  omega
theorem w_grow {m z : Int} {j : Nat} (h : m.natAbs < 2 ^ j) (hz : z.natAbs < 2 ^ 127) : (m * wPrime + z).natAbs < 2 ^ (j + 200) := by
  have h1 : (m * wPrime).natAbs = m.natAbs * 170141183460469231731687303715884105727 := Int.natAbs_mul m wPrime
  have h2 := Int.natAbs_add_le (m * wPrime) z
  have h3 : (2 : Nat) ^ (j + 200) = 2 ^ j * 2 ^ 200 := Nat.pow_add 2 j 200
  rw [h1] at h2
  rw [h3]
  generalize (2 : Nat) ^ j = X at *
  have h4 : (2 : Nat) ^ 200 = 2 ^ 200 := rfl
  omega
def weB (K : PySem.W.Frag) : TS := tSeq (tAsg (tOp (rI (fun _ j => 0 < j) fun i j => .int (i % j)) (tCB (fun xs H Q => (∃ i, xs = [V.int i] ∧ Q (.int i) H) ∨ ∃ k, xs = [V.bl k] ∧ Q (.int (if k then 1 else 0)) H) (tCons (tOp (rI0 fun i j => .int (i + j)) (tOp (rI0 fun i j => .int (i + j)) (tOp (rI CMulW fun i j => .int (i * j)) (tOp (rI CMulW fun i j => .int (i * j)) (tVar 3) (tVar 3)) (tVar 3)) (tOp (rI CMul fun i j => .int (i * j)) (tC (.int 7)) (tVar 5))) (tVar 1)) tNil)) (tVar 2)) (gName 3))
  (tAsg (tOp (rI0 fun i j => .int (i + j)) (tOp (rI CMulW fun i j => .int (i * j)) (tVar 4) (tVar 2)) (tVar 3)) (gName 4))
section
variable {P : Program} {w : World} {K : PySem.W.Frag} {mg : Str → Option Value} {base : Heap} {C : Addr}
theorem ok_well (d : Df K mg "_law_well" s_law_well) (T : Txt K mg C) : CallOk P w K mg base "_law_well" 1 ["_law_cell", "_law_salt"] (spW C r_well) := by
  refine .mk' d (fun f fd F => fn_well F sc_law_well (fun ds n h => by cases h; rfl) fun cdv A outer s0 H E ds n hr h => ?_) (fun _ _ _ _ _ _ us hl => match us, hl with | [_, _], _ => rfl)
  cases h with
  | mk cell =>
    refine ⟨_, (pss_cons (ps_if (pt_cmpR op_ge (pv 0) (pe_op op_pow pe_int pe_int) (nomark _)) (pss_one (ps_ret (pe_lst (pa_cons (pe_op op_sub (pv 0) (pe_op op_pow pe_int pe_int)) pa_nil)))) pss_nil)
      (pss_cons (ps_set (i := 2) sc_law_well.nd rfl (Or.inl rfl) pe_int)
      (pss_cons (ps_set (i := 3) sc_law_well.nd rfl (Or.inl rfl) (pe_op op_mod (pe_callTy call_int1 rfl T.b_int (by decide +kernel) (pa_cons (pe_op op_add (pe_op op_add (pe_op op_mul (pv 0) pe_int) (pe_op op_mul (pv 1) pe_int)) pe_int) pa_nil)) (pv 2)))
      (pss_cons (ps_set (i := 4) sc_law_well.nd rfl (Or.inl rfl) pe_int)
      (pss_cons (ps_for PassesOwn.never rfl (pi_range1 rfl T.b_range (pa_cons pe_int pa_nil)) (pg_name (i := 5) sc_law_well.nd rfl (Or.inl rfl))
      (pss_cons (ps_set (i := 3) sc_law_well.nd rfl (Or.inl rfl) (pe_op op_mod (pe_callTy call_int1 rfl T.b_int (by decide +kernel) (pa_cons (pe_op op_add (pe_op op_add (pe_op op_mulW (pe_op op_mulW (pv 3) (pv 3)) (pv 3)) (pe_op op_mul pe_int (pv 5))) (pv 1)) pa_nil)) (pv 2)))
      (pss_one (ps_set (i := 4) sc_law_well.nd rfl (Or.inl rfl) (pe_op op_add (pe_op op_mulW (pv 4) (pv 2)) (pv 3))))))
      (pss_one (ps_ret (pe_lst (pa_cons (pv 4) pa_nil))))))))), ?_⟩
    have p1 : CPow 10 18 := ⟨by decide, by decide, by decide⟩
    unfold wellN
    by_cases c : (10 : Int) ^ (18 : Int).toNat ≤ cell
    · rw [if_pos c]
      refine rw_take (et_test (ev_ge (ev_var rfl) (ev_pow ev_cI ev_cI p1))) (decide_eq_true c) ?_
      exact rw_ret (ev_sub (ev_var rfl) (ev_pow ev_cI ev_cI p1))
    · rw [if_neg c]
      refine rw_skip (et_test (ev_ge (ev_var rfl) (ev_pow ev_cI ev_cI p1))) (decide_eq_false c) ?_
      refine rw_seq (run_asg (d := .int wPrime) ev_cI eg_name) ?_
      have m1 : CMul cell 6364136223846793005 := .inr ⟨by decide, by decide⟩
      have m2 : CMul 95 1442695040888963407 := .inr ⟨by decide, by decide⟩
      refine rw_seq (run_asg (ev_mod (ev_int1 (ev_add (ev_add (ev_mulS (ev_var rfl) ev_cI m1) (ev_mulS (ev_var rfl) ev_cI m2)) ev_cI)) (ev_var rfl) (show 0 < wPrime by decide)) eg_name) ?_
      refine rw_seq (run_asg ev_cI eg_name) ?_
      have key : ∀ (l : List Nat) (s : Int × Int) (x : Sl) (j : Nat), s.1.natAbs < 2 ^ 127 → s.2.natAbs < 2 ^ (j + 1) → j + 200 * l.length ≤ 4000 → ∃ x', LoopR C (gName 5) (weB (cxOf CX0 P w K mg base N_law_well "_law_well" (defScope s_law_well) f cdv A outer s0 H E).nox.K) (l.map fun (i : Nat) => D.int (i : Int))
          [.p (.int cell), .p (.int 95), .p (.int wPrime), .p (.int s.1), .p (.int s.2), x] (.nx [.p (.int cell), .p (.int 95), .p (.int wPrime), .p (.int (l.foldl wStep s).1), .p (.int (l.foldl wStep s).2), x']) := by
        intro l
        induction l with
        | nil => intro s x j _ _ _; exact ⟨x, rfl⟩
        | cons k l ih =>
          intro s x j b1 b2 b3
          rw [List.length_cons] at b3
          obtain ⟨x', h⟩ := ih (wStep s k) (.p (.int (k : Int))) (j + 200) (w_mod _) (by rw [show j + 200 + 1 = j + 1 + 200 by omega]; exact w_grow b2 (w_mod _)) (by omega)
          refine ⟨x', _, eg_name, .nx _, ?_, h⟩
          have m1 : CMulW s.1 s.1 := small_mul (a := 127) (b := 127) b1 b1
          have m2 : CMulW (s.1 * s.1) s.1 := small_mul (a := 254) (b := 127) (wide_lt b1 b1) b1
          have m3 : CMul 7 (k : Int) := .inl ⟨by decide, by decide⟩
          have m4 : CMulW s.2 wPrime := small_mul (a := j + 1) (b := 127) b2 (by decide) (by omega) (by decide) (by omega)
          unfold weB
          refine run_seq (run_asg (ev_mod (ev_int1 (ev_add (ev_add (ev_mulW (ev_mulW (ev_var rfl) (ev_var rfl) m1) (ev_var rfl) m2) (ev_mulS ev_cI (ev_var rfl) m3)) (ev_var rfl))) (ev_var rfl) (show 0 < wPrime by decide)) eg_name) ?_
          exact run_eq (run_asg (ev_add (ev_mulW (ev_var rfl) (ev_var rfl) m4) (ev_var rfl)) eg_name) rfl
      obtain ⟨x', h⟩ := key (List.range 16) ((cell * 6364136223846793005 + 95 * 1442695040888963407 + 977) % wPrime, 0) .no 0 (w_mod _) (show (0 : Int).natAbs < 2 ^ 1 by decide) (by decide)
      refine rw_seq (run_range (n := 16) (ea_cons ev_cI ea_nil) (by decide) (by decide) h) ?_
      exact rw_ret (ev_var rfl)
end
end Sw
end
section
open PySem PySem.Spec PyProof.Rows L2 Sw Sd
local macro_rules | `(tactic| walk_at "ev") => `(tactic| first
  | with_reducible exact ev_cI
  | with_reducible exact ev_cS
  | with_reducible exact ev_cB
  | with_reducible exact ev_cN
  | with_reducible exact ea_nil
  | ((with_reducible apply ev_var); rfl)
  | ((with_reducible apply ea_cons); (· walk_at "ev"); (· walk_at "ev"))
  | ((with_reducible apply ev_add); (· walk_at "ev"); (· walk_at "ev"))
  | ((with_reducible apply ev_sub); (· walk_at "ev"); (· walk_at "ev"))
  | ((with_reducible apply ev_min2); (· walk_at "ev"); (· walk_at "ev"))
  | ((with_reducible apply ev_lt); (· walk_at "ev"); (· walk_at "ev"))
  | ((with_reducible apply ev_le); (· walk_at "ev"); (· walk_at "ev"))
  | ((with_reducible apply ev_gt); (· walk_at "ev"); (· walk_at "ev"))
  | ((with_reducible apply ev_ge); (· walk_at "ev"); (· walk_at "ev"))
  | ((with_reducible apply ev_eqI); (· walk_at "ev"); (· walk_at "ev"))
  | ((with_reducible apply ev_eqS); (· walk_at "ev"); (· walk_at "ev"))
  | ((with_reducible apply ev_eqB); (· walk_at "ev"); (· walk_at "ev"))
  | ((with_reducible apply ev_neI); (· walk_at "ev"); (· walk_at "ev"))
  | ((with_reducible apply ev_neg); (· walk_at "ev"))
  | ((with_reducible apply ev_isN); (· walk_at "ev"))
  | ((with_reducible apply ev_notN); (· walk_at "ev"))
  | ((with_reducible apply et_test); (· walk_at "ev"))
  | ((with_reducible apply et_B); (· walk_at "ev"))
  | ((with_reducible apply et_not); (· walk_at "ev"))
  | ((with_reducible apply ev_tup); (· walk_at "ev"); (· exact Nat.le_of_ble_eq_true rfl))
  | ((with_reducible apply ev_lst); (· walk_at "ev"); (· exact Nat.le_of_ble_eq_true rfl))
  | ((with_reducible apply ev_ix); (· walk_at "ev"); (· walk_at "ev"); (· rfl); (· rfl))
  | ((with_reducible apply ev_mulS); (· walk_at "ev"); (· walk_at "ev"); (· first | exact .inl ⟨by decide, by decide⟩ | exact .inr ⟨by decide, by decide⟩))
  | ((with_reducible apply ev_mulW); (· walk_at "ev"); (· walk_at "ev"); (· walk_at "sd"))
  | ((with_reducible apply ev_mod); (· walk_at "ev"); (· walk_at "ev"); (· walk_at "sd"))
  | ((with_reducible apply ev_div); (· walk_at "ev"); (· walk_at "ev"); (· walk_at "sd"))
  | ((with_reducible apply ev_prop); (· walk_at "ev"); (· walk_at "pr"))
  | ((with_reducible apply ev_chain); (· walk_at "ev"); (· walk_at "ev"); (· walk_at "ev"); (· exact r2_cmp); (· exact r2_cmp))
  | ((with_reducible apply ev_call); (· walk_at "ev"); (· walk_at "rel")))
local macro_rules | `(tactic| walk_at "sd") => `(tactic| first | assumption | decide | omega)
local macro_rules | `(tactic| walk_at "ret") => `(tactic| (apply rr_ret; (· walk_at "ev"); (try rfl)))
local macro_rules | `(tactic| walk_at "asg") => `(tactic| (apply run_asg; (· walk_at "ev"); (· walk_at "tgt")))
local macro_rules | `(tactic| walk_at "tgt") => `(tactic| first
  | with_reducible exact eg_name
  | ((apply eg_tup); (· rfl); (· walk_at "tgt"))
  | with_reducible exact egs_nil
  | ((with_reducible apply egs_cons); (· walk_at "tgt"); (· walk_at "tgt")))
local macro_rules | `(tactic| walk_at "set") => `(tactic| (apply rr_seq; (· walk_at "asg")))
local macro_rules | `(tactic| walk_at "par") => `(tactic| (apply rr_seq; (· apply run_par; walk_at "ev")))
local macro_rules | `(tactic| walk_at "asgE") => `(tactic| (apply run_eq; (· walk_at "asg"); (· rfl)))
local macro_rules | `(tactic| walk_at "parE") => `(tactic| (apply run_eq; (· apply run_par; walk_at "ev"); (· rfl)))
local macro_rules | `(tactic| walk_at "evr") => `(tactic| first | (apply et_is; (· walk_at "ev"); (· rfl)) | (apply ev_is; (· walk_at "ev"); (· rfl)))
local macro_rules | `(tactic| walk_at "drop") => `(tactic| (apply rr_seq; (· apply run_drop; walk_at "ev")))

namespace Sw
open Sd
local macro_rules | `(tactic| walk_at "rel") => `(tactic| first
  | exact r_go.mk _ _ _ _ _ _ _ (by assumption) (by assumption) (by assumption) (by assumption) (by assumption)
  | exact r_tog.mk _ _ _ _ _ _ (by assumption) (by assumption) (by assumption) (by assumption)
  | exact r_cnt.mk _ _ _ _ (by assumption) (by assumption)
  | exact r_loc.mk _ _ _ _ (by assumption) (by assumption)
  | exact r_csq.mk _ _ _ _ (by assumption)
  | exact r_cway.mk _ _ _ _ _ (by assumption) (by assumption)
  | exact r_frm.mk _ _ _ (by assumption)
  | exact r_legs.mk _ (by assumption) _ _ _ (by assumption)
  | exact r_str.mk _ _ _ _ _ _ (by assumption) (by assumption) (by assumption) (by assumption)
  | exact r_flen.mk _ _ _ _ _ (by assumption) (by assumption) (by assumption)
  | exact r_steps.mk3 _ (by assumption) _ _ _ _ _
  | exact r_steps.mk2 _ (by assumption) _ _ _ _
  | exact r_tom.mk _ (by assumption) _ _
  | exact r_from.mk _ (by assumption) _ _ _ _ (by assumption)
  | exact r_behind.mk _ _ _ _
  | exact r_gcd.mk _ _ (by assumption) (by assumption) (by assumption) (by assumption)
  | exact r_cls.mk _ _ _ (by assumption)
  | exact r_fsq.mk _ _ (by assumption)
  | exact r_fpt.mk _ _ (by assumption)
  | exact r_pts.mk _ _
  | exact r_unf.mk _ _ _ _)
local macro_rules | `(tactic| walk_at "pr") => `(tactic| first
  | exact r_w.mk _ _ _
  | exact r_h.mk _ _ _
  | exact r_mirs.mk _ _ _ (by assumption))

/-! ### _law_side -/
def fmaxI (w : Int) : Int := if w = 0 then 10 else if w = 1 then (10 : Int) ^ (9 : Int).toNat else if w = 3 then 2 else 1
def sz0 (w : Int) : Int := if w = 0 then (10 : Int) ^ (29 : Int).toNat else if w = 1 then (10 : Int) ^ (20 : Int).toNat else if w = 2 then 9 else if w = 3 then 7 else 1
def sz1 (w : Int) : Int := if w = 0 then (10 : Int) ^ (29 : Int).toNat else if w = 1 then (10 : Int) ^ (20 : Int).toNat else if w = 2 then (10 : Int) ^ (29 : Int).toNat else if w = 3 then 7 else (10 : Int) ^ (29 : Int).toNat
theorem way5 {P : Int → Prop} (h0 : P 0) (h1 : P 1) (h2 : P 2) (h3 : P 3) (h4 : P 4) {w : Int} (a : 0 ≤ w) (b : w < 5) : P w := by
  have : w = 0 ∨ w = 1 ∨ w = 2 ∨ w = 3 ∨ w = 4 := by omega
  rcases this with rfl | rfl | rfl | rfl | rfl <;> assumption
def fmaxD : List D := [.int 10, .int ((10 : Int) ^ (9 : Int).toNat), .int 1, .int 2, .int 1]
def szD : List D := [.lst [.int ((10 : Int) ^ (29 : Int).toNat), .int ((10 : Int) ^ (29 : Int).toNat)], .lst [.int ((10 : Int) ^ (20 : Int).toNat), .int ((10 : Int) ^ (20 : Int).toNat)], .lst [.int 9, .int ((10 : Int) ^ (29 : Int).toNat)], .lst [.int 7, .int 7], .lst [.int 1, .int ((10 : Int) ^ (29 : Int).toNat)]]
theorem fmax_at {w : Int} (a : 0 ≤ w) (b : w < 5) : atI fmaxD w = some (.int (fmaxI w)) := way5 (P := fun w => atI fmaxD w = some (.int (fmaxI w))) rfl rfl rfl rfl rfl a b
theorem sz_at {w : Int} (a : 0 ≤ w) (b : w < 5) : atI szD w = some (.lst [.int (sz0 w), .int (sz1 w)]) := way5 (P := fun w => atI szD w = some (.lst [.int (sz0 w), .int (sz1 w)])) rfl rfl rfl rfl rfl a b
theorem fmax_b {w : Int} (a : 0 ≤ w) (b : w < 5) : 0 < fmaxI w ∧ fmaxI w < 2 ^ 40 := way5 (P := fun w => 0 < fmaxI w ∧ fmaxI w < 2 ^ 40) (by decide) (by decide) (by decide) (by decide) (by decide) a b
theorem sz0_b {w : Int} (a : 0 ≤ w) (b : w < 5) : 0 < sz0 w ∧ sz0 w < 2 ^ 100 ∧ fmaxI w * sz0 w < 2 ^ 110 := way5 (P := fun w => 0 < sz0 w ∧ sz0 w < 2 ^ 100 ∧ fmaxI w * sz0 w < 2 ^ 110) (by decide) (by decide) (by decide) (by decide) (by decide) a b
theorem sz1_b {w : Int} (a : 0 ≤ w) (b : w < 5) : 0 < sz1 w ∧ sz1 w < 2 ^ 100 ∧ fmaxI w * sz1 w < 2 ^ 110 := way5 (P := fun w => 0 < sz1 w ∧ sz1 w < 2 ^ 100 ∧ fmaxI w * sz1 w < 2 ^ 110) (by decide) (by decide) (by decide) (by decide) (by decide) a b
structure SdF where
  a : Int
  b : Int
  n : Int
def sideF (N : Int) : SdF :=
  ⟨(1 + N / 5 % fmaxI (N % 5)) * (1 + N / 5 / fmaxI (N % 5) % sz0 (N % 5)), (1 + N / 5 % fmaxI (N % 5)) * (1 + N / 5 / fmaxI (N % 5) / sz0 (N % 5) % sz1 (N % 5)), N / 5 / fmaxI (N % 5) / sz0 (N % 5) / sz1 (N % 5)⟩
theorem prod_b {x f y s : Int} (f0 : 0 < f) (s0 : 0 < s) (h : f * s < 2 ^ 110) : 1 ≤ (1 + x % f) * (1 + y % s) ∧ (1 + x % f) * (1 + y % s) < 2 ^ 110 := by
  have a1 := Int.emod_nonneg x (b := f) (by omega)
  have a2 := Int.emod_lt_of_pos x f0
  have b1 := Int.emod_nonneg y (b := s) (by omega)
  have b2 := Int.emod_lt_of_pos y s0
  have h1 : (1 + x % f) * (1 + y % s) ≤ f * s := Int.mul_le_mul (by omega) (by omega) (by omega) (by omega)
  have h2 : 0 < (1 + x % f) * (1 + y % s) := Int.mul_pos (by omega) (by omega)
  omega
theorem side_b (N : Int) : 1 ≤ (sideF N).a ∧ (sideF N).a < 2 ^ 110 ∧ 1 ≤ (sideF N).b ∧ (sideF N).b < 2 ^ 110 := by
  have w0 := Int.emod_nonneg N (b := 5) (by omega)
  have w5 := Int.emod_lt_of_pos N (b := 5) (by omega)
  have f := fmax_b w0 w5
  have a := sz0_b w0 w5
  have b := sz1_b w0 w5
  have h1 := prod_b (x := N / 5) (y := N / 5 / fmaxI (N % 5)) f.1 a.1 a.2.2
  have h2 := prod_b (x := N / 5) (y := N / 5 / fmaxI (N % 5) / sz0 (N % 5)) f.1 b.1 b.2.2
  exact ⟨h1.1, h1.2, h2.1, h2.2⟩
inductive r_side : Int → List D → D → Int → Prop where
  | mk (N : Int) : r_side N [] (.tup [.int (sideF N).a, .int (sideF N).b]) (sideF N).n
section
variable {P : Program} {w : World} {K : PySem.W.Frag} {mg : Str → Option Value} {base : Heap} {C : Addr}
theorem ok_side (d : Df K mg "_law_side" s_law_side) (c_law_pick : CallOk P w K mg base "_law_pick" 1 ["_law_well_here", "_law_many"] (spM C r_pick)) : CallOk P w K mg base "_law_side" 2 ["_law_well_here"] (spM C r_side) := by
  refine .mk' d (fun f fd F => fn_mut F sc_law_side (fun n ds d n' h => by cases h; rfl) fun cdv A outer s0 H E n ds d n' hr h => ?_) (fun _ _ _ _ _ _ us hl => match us, hl with | [_], _ => rfl)
  cases h with
  | mk =>
    refine ⟨_, (pss_cons (ps_set (i := 1) sc_law_side.nd rfl (Or.inl rfl) (pe_callC c_law_pick hr (by decide) rfl (pa_cons (pv 0) (pa_cons pe_int pa_nil))))
      (pss_cons (ps_set (i := 2) sc_law_side.nd rfl (Or.inl rfl) (pe_op op_add pe_int (pe_callC c_law_pick hr (by decide) rfl (pa_cons (pv 0) (pa_cons (pe_ix ix_seq (pe_lst (pa_cons pe_int (pa_cons (pe_op op_pow pe_int pe_int) (pa_cons pe_int (pa_cons pe_int (pa_cons pe_int pa_nil)))))) (pv 1) (fun _ _ => rfl)) pa_nil)))))
      (pss_cons (ps_set (i := 3) sc_law_side.nd rfl (Or.inl rfl) (pe_ix ix_seq (pe_lst (pa_cons (pe_lst (pa_cons (pe_op op_pow pe_int pe_int) (pa_cons (pe_op op_pow pe_int pe_int) pa_nil))) (pa_cons (pe_lst (pa_cons (pe_op op_pow pe_int pe_int) (pa_cons (pe_op op_pow pe_int pe_int) pa_nil))) (pa_cons (pe_lst (pa_cons pe_int (pa_cons (pe_op op_pow pe_int pe_int) pa_nil))) (pa_cons (pe_lst (pa_cons pe_int (pa_cons pe_int pa_nil))) (pa_cons (pe_lst (pa_cons pe_int (pa_cons (pe_op op_pow pe_int pe_int) pa_nil))) pa_nil)))))) (pv 1) (fun _ _ => rfl)))
      (pss_one (ps_ret (pe_tup (pa_cons (pe_op op_mulW (pv 2) (pe_op op_add pe_int (pe_callC c_law_pick hr (by decide) rfl (pa_cons (pv 0) (pa_cons (pe_ix ix_seq (pv 3) pe_int (fun _ _ => rfl)) pa_nil))))) (pa_cons (pe_op op_mulW (pv 2) (pe_op op_add pe_int (pe_callC c_law_pick hr (by decide) rfl (pa_cons (pv 0) (pa_cons (pe_ix ix_seq (pv 3) pe_int (fun _ _ => rfl)) pa_nil))))) pa_nil)))))))), fun p => ⟨[.cel p [.int (sideF n).n], .p (.int (n % 5)), .p (.int (1 + n / 5 % fmaxI (n % 5))), .p (.lst [.int (sz0 (n % 5)), .int (sz1 (n % 5))])], rfl, ?_⟩⟩
    have w0 := Int.emod_nonneg n (b := 5) (by omega)
    have w5 := Int.emod_lt_of_pos n (b := 5) (by omega)
    unfold sideF
    generalize hw : n % 5 = way at w0 w5 ⊢
    have fb := fmax_b w0 w5
    have ab := sz0_b w0 w5
    have bb := sz1_b w0 w5
    have p9 : CPow 10 9 := ⟨by decide, by decide, by decide⟩
    have p29 : CPow 10 29 := ⟨by decide, by decide, by decide⟩
    have p20 : CPow 10 20 := ⟨by decide, by decide, by decide⟩
    refine run_seq (e1 := [.cel p [.int (n / 5)], .p (.int way), .no, .no]) (run_eq (run_asg (d := .int way) (ev_is (ev_callM (i := 0) rfl (.c p n (n / 5)) (ea_cons ev_cI ea_nil) (.mk n 5 (by decide) (by decide))) (by rw [hw])) eg_name) rfl) ?_
    have q1 : EvM C _ [.cel p [.int (n / 5)], .p (.int way), .no, .no] (.int (fmaxI way)) [.cel p [.int (n / 5)], .p (.int way), .no, .no] := ev_ix (K := (cxOf CX0 P w K mg base N_law_side "_law_side" (defScope s_law_side) f cdv A outer s0 H E).nox.K) (ev_lst (ds := fmaxD) (ea_cons ev_cI (ea_cons (ev_pow ev_cI ev_cI p9) (ea_cons ev_cI (ea_cons ev_cI (ea_cons ev_cI ea_nil))))) (Nat.le_of_ble_eq_true rfl)) (ev_var (k := 1) rfl) rfl (fmax_at w0 w5)
    refine run_seq (e1 := [.cel p [.int (n / 5 / fmaxI way)], .p (.int way), .p (.int (1 + n / 5 % fmaxI way)), .no]) (run_eq (run_asg (ev_add ev_cI (ev_callM (i := 0) rfl (.c p (n / 5) (n / 5 / fmaxI way)) (ea_cons q1 ea_nil) (.mk _ _ fb.1 (by omega)))) eg_name) rfl) ?_
    have q2 : EvM C _ [.cel p [.int (n / 5 / fmaxI way)], .p (.int way), .p (.int (1 + n / 5 % fmaxI way)), .no] (.lst [.int (sz0 way), .int (sz1 way)]) [.cel p [.int (n / 5 / fmaxI way)], .p (.int way), .p (.int (1 + n / 5 % fmaxI way)), .no] := ev_ix (K := (cxOf CX0 P w K mg base N_law_side "_law_side" (defScope s_law_side) f cdv A outer s0 H E).nox.K) (ev_lst (ds := szD)
      (ea_cons (ev_lst (ea_cons (ev_pow ev_cI ev_cI p29) (ea_cons (ev_pow ev_cI ev_cI p29) ea_nil)) (Nat.le_of_ble_eq_true rfl)) (ea_cons (ev_lst (ea_cons (ev_pow ev_cI ev_cI p20) (ea_cons (ev_pow ev_cI ev_cI p20) ea_nil)) (Nat.le_of_ble_eq_true rfl))
        (ea_cons (ev_lst (ea_cons ev_cI (ea_cons (ev_pow ev_cI ev_cI p29) ea_nil)) (Nat.le_of_ble_eq_true rfl)) (ea_cons (ev_lst (ea_cons ev_cI (ea_cons ev_cI ea_nil)) (Nat.le_of_ble_eq_true rfl)) (ea_cons (ev_lst (ea_cons ev_cI (ea_cons (ev_pow ev_cI ev_cI p29) ea_nil)) (Nat.le_of_ble_eq_true rfl)) ea_nil))))) (Nat.le_of_ble_eq_true rfl)) (ev_var (k := 1) rfl) rfl (sz_at w0 w5)
    refine run_seq (e1 := [.cel p [.int (n / 5 / fmaxI way)], .p (.int way), .p (.int (1 + n / 5 % fmaxI way)), .p (.lst [.int (sz0 way), .int (sz1 way)])]) (run_eq (run_asg q2 eg_name) rfl) ?_
    have fm1 := Int.emod_nonneg (n / 5) (b := fmaxI way) (by omega)
    have fm2 := Int.emod_lt_of_pos (n / 5) fb.1
    have g1 := Int.emod_nonneg (n / 5 / fmaxI way) (b := sz0 way) (by omega)
    have g2 := Int.emod_lt_of_pos (n / 5 / fmaxI way) ab.1
    have g3 := Int.emod_nonneg (n / 5 / fmaxI way / sz0 way) (b := sz1 way) (by omega)
    have g4 := Int.emod_lt_of_pos (n / 5 / fmaxI way / sz0 way) bb.1
    have m1 : CMulW (1 + n / 5 % fmaxI way) (1 + n / 5 / fmaxI way % sz0 way) := small_mul (a := 110) (b := 110) (by omega) (by omega)
    have m2 : CMulW (1 + n / 5 % fmaxI way) (1 + n / 5 / fmaxI way / sz0 way % sz1 way) := small_mul (a := 110) (b := 110) (by omega) (by omega)
    refine run_eq (run_ret (ev_tup (ea_cons (ev_mulW (ev_var rfl) (ev_add ev_cI (ev_callM (i := 0) rfl (.c p (n / 5 / fmaxI way) (n / 5 / fmaxI way / sz0 way)) (ea_cons (ev_ix (ev_var rfl) ev_cI rfl rfl) ea_nil) (.mk _ _ ab.1 (by omega)))) m1)
      (ea_cons (ev_mulW (ev_var rfl) (ev_add ev_cI (ev_callM (i := 0) rfl (.c p (n / 5 / fmaxI way / sz0 way) (n / 5 / fmaxI way / sz0 way / sz1 way)) (ea_cons (ev_ix (ev_var rfl) ev_cI rfl rfl) ea_nil) (.mk _ _ bb.1 (by omega)))) m2) ea_nil)) (Nat.le_of_ble_eq_true rfl))) ?_
    rfl
end
end Sw
end
section
open PySem PySem.Spec PyProof.Rows L2 Sw Sd
local macro_rules | `(tactic| walk_at "ev") => `(tactic| first
  | with_reducible exact ev_cI
  | with_reducible exact ev_cS
  | with_reducible exact ev_cB
  | with_reducible exact ev_cN
  | with_reducible exact ea_nil
  | ((with_reducible apply ev_var); rfl)
  | ((with_reducible apply ea_cons); (· walk_at "ev"); (· walk_at "ev"))
  | ((with_reducible apply ev_add); (· walk_at "ev"); (· walk_at "ev"))
  | ((with_reducible apply ev_sub); (· walk_at "ev"); (· walk_at "ev"))
  | ((with_reducible apply ev_min2); (· walk_at "ev"); (· walk_at "ev"))
  | ((with_reducible apply ev_lt); (· walk_at "ev"); (· walk_at "ev"))
  | ((with_reducible apply ev_le); (· walk_at "ev"); (· walk_at "ev"))
  | ((with_reducible apply ev_gt); (· walk_at "ev"); (· walk_at "ev"))
  | ((with_reducible apply ev_ge); (· walk_at "ev"); (· walk_at "ev"))
  | ((with_reducible apply ev_eqI); (· walk_at "ev"); (· walk_at "ev"))
  | ((with_reducible apply ev_eqS); (· walk_at "ev"); (· walk_at "ev"))
  | ((with_reducible apply ev_eqB); (· walk_at "ev"); (· walk_at "ev"))
  | ((with_reducible apply ev_neI); (· walk_at "ev"); (· walk_at "ev"))
  | ((with_reducible apply ev_neg); (· walk_at "ev"))
  | ((with_reducible apply ev_isN); (· walk_at "ev"))
  | ((with_reducible apply ev_notN); (· walk_at "ev"))
  | ((with_reducible apply et_test); (· walk_at "ev"))
  | ((with_reducible apply et_B); (· walk_at "ev"))
  | ((with_reducible apply et_not); (· walk_at "ev"))
  | ((with_reducible apply ev_tup); (· walk_at "ev"); (· exact Nat.le_of_ble_eq_true rfl))
  | ((with_reducible apply ev_lst); (· walk_at "ev"); (· exact Nat.le_of_ble_eq_true rfl))
  | ((with_reducible apply ev_ix); (· walk_at "ev"); (· walk_at "ev"); (· rfl); (· rfl))
  | ((with_reducible apply ev_mulS); (· walk_at "ev"); (· walk_at "ev"); (· first | exact .inl ⟨by decide, by decide⟩ | exact .inr ⟨by decide, by decide⟩))
  | ((with_reducible apply ev_mulW); (· walk_at "ev"); (· walk_at "ev"); (· walk_at "sd"))
  | ((with_reducible apply ev_mod); (· walk_at "ev"); (· walk_at "ev"); (· walk_at "sd"))
  | ((with_reducible apply ev_div); (· walk_at "ev"); (· walk_at "ev"); (· walk_at "sd"))
  | ((with_reducible apply ev_prop); (· walk_at "ev"); (· walk_at "pr"))
  | ((with_reducible apply ev_chain); (· walk_at "ev"); (· walk_at "ev"); (· walk_at "ev"); (· exact r2_cmp); (· exact r2_cmp))
  | ((with_reducible apply ev_call); (· walk_at "ev"); (· walk_at "rel")))
local macro_rules | `(tactic| walk_at "sd") => `(tactic| first | assumption | decide | omega)
local macro_rules | `(tactic| walk_at "ret") => `(tactic| (apply rr_ret; (· walk_at "ev"); (try rfl)))
local macro_rules | `(tactic| walk_at "asg") => `(tactic| (apply run_asg; (· walk_at "ev"); (· walk_at "tgt")))
local macro_rules | `(tactic| walk_at "tgt") => `(tactic| first
  | with_reducible exact eg_name
  | ((apply eg_tup); (· rfl); (· walk_at "tgt"))
  | with_reducible exact egs_nil
  | ((with_reducible apply egs_cons); (· walk_at "tgt"); (· walk_at "tgt")))
local macro_rules | `(tactic| walk_at "set") => `(tactic| (apply rr_seq; (· walk_at "asg")))
local macro_rules | `(tactic| walk_at "par") => `(tactic| (apply rr_seq; (· apply run_par; walk_at "ev")))
local macro_rules | `(tactic| walk_at "asgE") => `(tactic| (apply run_eq; (· walk_at "asg"); (· rfl)))
local macro_rules | `(tactic| walk_at "parE") => `(tactic| (apply run_eq; (· apply run_par; walk_at "ev"); (· rfl)))
local macro_rules | `(tactic| walk_at "evr") => `(tactic| first | (apply et_is; (· walk_at "ev"); (· rfl)) | (apply ev_is; (· walk_at "ev"); (· rfl)))
local macro_rules | `(tactic| walk_at "drop") => `(tactic| (apply rr_seq; (· apply run_drop; walk_at "ev")))

namespace Sw
open Sd
local macro_rules | `(tactic| walk_at "rel") => `(tactic| first
  | exact r_go.mk _ _ _ _ _ _ _ (by assumption) (by assumption) (by assumption) (by assumption) (by assumption)
  | exact r_tog.mk _ _ _ _ _ _ (by assumption) (by assumption) (by assumption) (by assumption)
  | exact r_cnt.mk _ _ _ _ (by assumption) (by assumption)
  | exact r_loc.mk _ _ _ _ (by assumption) (by assumption)
  | exact r_csq.mk _ _ _ _ (by assumption)
  | exact r_cway.mk _ _ _ _ _ (by assumption) (by assumption)
  | exact r_frm.mk _ _ _ (by assumption)
  | exact r_legs.mk _ (by assumption) _ _ _ (by assumption)
  | exact r_str.mk _ _ _ _ _ _ (by assumption) (by assumption) (by assumption) (by assumption)
  | exact r_flen.mk _ _ _ _ _ (by assumption) (by assumption) (by assumption)
  | exact r_steps.mk3 _ (by assumption) _ _ _ _ _
  | exact r_steps.mk2 _ (by assumption) _ _ _ _
  | exact r_tom.mk _ (by assumption) _ _
  | exact r_from.mk _ (by assumption) _ _ _ _ (by assumption)
  | exact r_behind.mk _ _ _ _
  | exact r_gcd.mk _ _ (by assumption) (by assumption) (by assumption) (by assumption)
  | exact r_cls.mk _ _ _ (by assumption)
  | exact r_fsq.mk _ _ (by assumption)
  | exact r_fpt.mk _ _ (by assumption)
  | exact r_pts.mk _ _
  | exact r_unf.mk _ _ _ _)
local macro_rules | `(tactic| walk_at "pr") => `(tactic| first
  | exact r_w.mk _ _ _
  | exact r_h.mk _ _ _
  | exact r_mirs.mk _ _ _ (by assumption))

/-! ### _law_far -/
def kdC (i : Int) : Nat := if i = 0 then 45 else 124
def kdS (i : Int) : Str := ⟨#[kdC i]⟩
theorem two {P : Int → Prop} (h0 : P 0) (h1 : P 1) {w : Int} (a : 0 ≤ w) (b : w < 2) : P w := by
  have : w = 0 ∨ w = 1 := by omega
  rcases this with rfl | rfl <;> assumption
theorem kd_at {i : Int} (a : 0 ≤ i) (b : i < 2) : atI ("-|" : Str).cps.toList i = some (kdC i) := two (P := fun i => atI ("-|" : Str).cps.toList i = some (kdC i)) rfl rfl a b
theorem kd_ok (i : Int) : kdS i = "-" ∨ kdS i = "|" := by
  unfold kdS kdC
  by_cases c : i = 0
  · rw [if_pos c]; exact .inl (by decide +kernel)
  · rw [if_neg c]; exact .inr (by decide +kernel)
/-- one more entry -/
def putS (kvs : List KeyM) (q : Int × Int) (k : Str) : List KeyM := if (kvs.any fun e => decide (e.1 = q)) = true then kvs.map (fun e => if e.1 = q then (e.1, k) else e) else kvs ++ [(q, k)]
theorem putS_kv (kvs : List KeyM) (q : Int × Int) (k : Str) : putK (kvV kvs) q (V.str k) = kvV (putS kvs q k) := by
  have e : ((kvV kvs).any fun kv => decide (kv.1 = q)) = (kvs.any fun e => decide (e.1 = q)) := by unfold kvV; rw [List.any_map]; rfl
  unfold putK putS
  rw [e]
  cases (kvs.any fun e => decide (e.1 = q)) with
  | true =>
    rw [if_pos rfl, if_pos rfl]
    unfold kvV
    rw [List.map_map, List.map_map]
    refine List.map_congr_left fun x _ => ?_
    show (if x.1 = q then (x.1, V.str k) else (x.1, V.str x.2)) = ((if x.1 = q then (x.1, k) else x).1, V.str (if x.1 = q then (x.1, k) else x).2)
    split <;> rfl
  | false =>
    rw [if_neg (by decide), if_neg (by decide)]
    simp [kvV]
theorem putS_keys (kvs : List KeyM) (q : Int × Int) (k : Str) : (putS kvs q k).map (·.1) = if (kvs.any fun e => decide (e.1 = q)) = true then kvs.map (·.1) else kvs.map (·.1) ++ [q] := by
  unfold putS
  split
  · rw [List.map_map]
    refine List.map_congr_left fun x _ => ?_
    show (if x.1 = q then (x.1, k) else x).1 = x.1
    split <;> rfl
  · rw [List.map_append]; rfl
/-- what the entries are so far -/
structure FarOk (w h : Int) (kvs : List KeyM) : Prop where
  ins : ∀ q ∈ kvs.map (·.1), 0 < q.1 ∧ q.1 < 2 * w ∧ 0 < q.2 ∧ q.2 < 2 * h ∧ (q.1 + q.2) % 2 = 1
  nd : (kvs.map (·.1)).Nodup
  kd : ∀ q ∈ kvs, q.2 = "-" ∨ q.2 = "|"
theorem FarOk.put {w h : Int} {kvs : List KeyM} (f : FarOk w h kvs) {q : Int × Int} {k : Str} (hi : 0 < q.1 ∧ q.1 < 2 * w ∧ 0 < q.2 ∧ q.2 < 2 * h ∧ (q.1 + q.2) % 2 = 1) (hk : k = "-" ∨ k = "|") : FarOk w h (putS kvs q k) ∧ (putS kvs q k).length ≤ kvs.length + 1 := by
  refine ⟨⟨?_, ?_, ?_⟩, ?_⟩
  · rw [putS_keys]
    split
    · exact f.ins
    · intro p hp
      rcases List.mem_append.mp hp with hp | hp
      · exact f.ins p hp
      · rw [List.mem_singleton.mp hp]; exact hi
  · rw [putS_keys]
    split
    · exact f.nd
    · rename_i hc
      rw [List.nodup_append]
      refine ⟨f.nd, by simp, fun a ha b hb e => ?_⟩
      rw [List.mem_singleton.mp hb] at e
      subst e
      obtain ⟨x, hx, e⟩ := List.mem_map.mp ha
      exact hc (List.any_eq_true.mpr ⟨x, hx, decide_eq_true e⟩)
  · unfold putS
    split
    · intro p hp
      obtain ⟨x, hx, rfl⟩ := List.mem_map.mp hp
      split
      · exact hk
      · exact f.kd x hx
    · intro p hp
      rcases List.mem_append.mp hp with hp | hp
      · exact f.kd p hp
      · rw [List.mem_singleton.mp hp]; exact hk
  · unfold putS
    split
    · rw [List.length_map]; omega
    · rw [List.length_append]; exact Nat.le_refl _
theorem FarOk.kv {w h : Int} {kvs : List KeyM} (f : FarOk w h kvs) (w1 : 1 ≤ w) (h1 : 1 ≤ h) (wb : w < 2 ^ 110) (hb : h < 2 ^ 110) (hl : kvs.length ≤ 20) : KvOk w h kvs := by
  refine ⟨⟨w1, h1, fun m hm => ?_, fun m hm m' hm' ex ey => ?_⟩, f.nd, f.kd, wb, hb, hl⟩
  · obtain ⟨q, hq, rfl⟩ := List.mem_map.mp hm
    exact f.ins q.1 (List.mem_map.mpr ⟨q, hq, rfl⟩)
  · obtain ⟨q, hq, rfl⟩ := List.mem_map.mp hm
    obtain ⟨q', hq', rfl⟩ := List.mem_map.mp hm'
    have e : q.1 = q'.1 := Prod.ext ex ey
    have nd := f.nd
    clear f hm hm' hl
    have : ∀ kvs : List KeyM, (kvs.map (·.1)).Nodup → q ∈ kvs → q' ∈ kvs → q = q' := by
      intro kvs
      induction kvs with
      | nil => intro _ h; cases h
      | cons a l ih =>
        intro nd h1 h2
        rw [List.map_cons, List.nodup_cons] at nd
        rcases List.mem_cons.mp h1 with r1 | r1 <;> rcases List.mem_cons.mp h2 with r2 | r2
        · rw [r1, r2]
        · exact (nd.1 (by rw [← r1]; rw [show q.1 = q'.1 from e]; exact List.mem_map.mpr ⟨q', r2, rfl⟩)).elim
        · exact (nd.1 (by rw [← r2]; rw [show q'.1 = q.1 from e.symm]; exact List.mem_map.mpr ⟨q, r1, rfl⟩)).elim
        · exact ih nd.2 r1 r2
    rw [this kvs nd hq hq']
structure FS where
  x : Int
  y : Int
  kvs : List KeyM
  n : Int
/-- the place of the next entry, and the well behind it -/
def farXY (w h way : Int) (s : FS) (n : Int) : Int × Int × Int :=
  if (decide (1 < way) && (decide (0 < s.x) && (decide (s.x + 1 < 2 * w) && decide (s.y + 1 < 2 * h)))) = true then (s.x + 1, s.y + (if (decide (way = 3) && decide (1 < s.y)) = true then -1 else 1), n)
  else if (decide (1 < w) && (decide (way = 0) || (decide (way = 2) || decide (h = 1)))) = true then (2 + 2 * (n % (w - 1)), 1 + 2 * (n / (w - 1) % h), n / (w - 1) / h)
  else if decide (1 < h) = true then (1 + 2 * (n % w), 2 + 2 * (n / w % (h - 1)), n / w / (h - 1))
  else (s.x, s.y, n)
def farStep (w h : Int) (s : FS) : FS :=
  ⟨(farXY w h (s.n / 2 % 4) s (s.n / 2 / 4)).1, (farXY w h (s.n / 2 % 4) s (s.n / 2 / 4)).2.1,
    if 0 < (farXY w h (s.n / 2 % 4) s (s.n / 2 / 4)).1 then putS s.kvs ((farXY w h (s.n / 2 % 4) s (s.n / 2 / 4)).1, (farXY w h (s.n / 2 % 4) s (s.n / 2 / 4)).2.1) (kdS (s.n % 2)) else s.kvs, (farXY w h (s.n / 2 % 4) s (s.n / 2 / 4)).2.2⟩
def InsP (w h x y : Int) : Prop := 0 < x ∧ x < 2 * w ∧ 0 < y ∧ y < 2 * h ∧ (x + y) % 2 = 1
theorem farXY_ok {w h way : Int} {s : FS} {n : Int} (w1 : 1 ≤ w) (h1 : 1 ≤ h) (hs : 0 < s.x → InsP w h s.x s.y) (h0 : 0 ≤ s.x) : (0 < (farXY w h way s n).1 → InsP w h (farXY w h way s n).1 (farXY w h way s n).2.1) ∧ 0 ≤ (farXY w h way s n).1 := by
  unfold farXY
  split
  · rename_i c
    simp only [Bool.and_eq_true, decide_eq_true_eq] at c
    obtain ⟨c1, c2, c3, c4⟩ := c
    obtain ⟨i1, i2, i3, i4, i5⟩ := hs c2
    refine ⟨fun _ => ?_, by show 0 ≤ s.x + 1; omega⟩
    show InsP w h (s.x + 1) (s.y + _)
    split
    · rename_i d
      simp only [Bool.and_eq_true, decide_eq_true_eq] at d
      unfold InsP
      omega
    · unfold InsP
      omega
  · split
    · rename_i c
      simp only [Bool.and_eq_true, decide_eq_true_eq] at c
      have a1 := Int.emod_nonneg n (b := w - 1) (by omega)
      have a2 := Int.emod_lt_of_pos n (b := w - 1) (by omega)
      have b1 := Int.emod_nonneg (n / (w - 1)) (b := h) (by omega)
      have b2 := Int.emod_lt_of_pos (n / (w - 1)) (b := h) (by omega)
      unfold InsP
      dsimp only
      omega
    · split
      · rename_i c
        simp only [decide_eq_true_eq] at c
        have a1 := Int.emod_nonneg n (b := w) (by omega)
        have a2 := Int.emod_lt_of_pos n (b := w) (by omega)
        have b1 := Int.emod_nonneg (n / w) (b := h - 1) (by omega)
        have b2 := Int.emod_lt_of_pos (n / w) (b := h - 1) (by omega)
        unfold InsP
        dsimp only
        omega
      · exact ⟨hs, h0⟩
structure FarI (w h : Int) (s : FS) : Prop where
  p : 0 < s.x → InsP w h s.x s.y
  x0 : 0 ≤ s.x
  ok : FarOk w h s.kvs
theorem farStep_ok {w h : Int} {s : FS} (w1 : 1 ≤ w) (h1 : 1 ≤ h) (I : FarI w h s) : FarI w h (farStep w h s) ∧ (farStep w h s).kvs.length ≤ s.kvs.length + 1 := by
  obtain ⟨a, b⟩ := farXY_ok (way := s.n / 2 % 4) (n := s.n / 2 / 4) w1 h1 I.p I.x0
  unfold farStep
  by_cases c : 0 < (farXY w h (s.n / 2 % 4) s (s.n / 2 / 4)).1
  · obtain ⟨c1, c2⟩ := I.ok.put (q := ((farXY w h (s.n / 2 % 4) s (s.n / 2 / 4)).1, (farXY w h (s.n / 2 % 4) s (s.n / 2 / 4)).2.1)) (k := kdS (s.n % 2)) (a c) (kd_ok _)
    refine ⟨⟨a, b, ?_⟩, ?_⟩
    · dsimp only; rw [if_pos c]; exact c1
    · dsimp only; rw [if_pos c]; exact c2
  · refine ⟨⟨a, b, ?_⟩, ?_⟩
    · dsimp only; rw [if_neg c]; exact I.ok
    · dsimp only; rw [if_neg c]; omega
def itF (w h : Int) : Nat → FS → FS
  | 0, s => s
  | k + 1, s => itF w h k (farStep w h s)
structure FarF where
  w : Int
  h : Int
  kvs : List KeyM
  n : Int
def farW (N : Int) : Int := if N % 2 = 0 then (sideF (N / 2 / 6)).a else (sideF (N / 2 / 6)).b
def farH (N : Int) : Int := if N % 2 = 0 then (sideF (N / 2 / 6)).b else (sideF (N / 2 / 6)).a
def farE (N : Int) : FS := itF (farW N) (farH N) (N / 2 % 6).toNat ⟨0, 0, [], (sideF (N / 2 / 6)).n⟩
theorem itF_ok {w h : Int} (w1 : 1 ≤ w) (h1 : 1 ≤ h) : ∀ (k : Nat) (s : FS), FarI w h s → FarI w h (itF w h k s) ∧ (itF w h k s).kvs.length ≤ s.kvs.length + k
  | 0, s, I => ⟨I, Nat.le_refl _⟩
  | k + 1, s, I => by
    obtain ⟨a, b⟩ := farStep_ok w1 h1 I
    obtain ⟨c, d⟩ := itF_ok w1 h1 k _ a
    exact ⟨c, by show (itF w h k (farStep w h s)).kvs.length ≤ _; omega⟩
theorem far_b (N : Int) : 1 ≤ farW N ∧ farW N < 2 ^ 110 ∧ 1 ≤ farH N ∧ farH N < 2 ^ 110 := by
  have b := side_b (N / 2 / 6)
  unfold farW farH
  split <;> omega
theorem far_start {w h n : Int} : FarI w h ⟨0, 0, [], n⟩ := ⟨fun z => absurd z (Int.lt_irrefl 0), Int.le_refl 0, ⟨fun q hq => (List.not_mem_nil hq).elim, List.nodup_nil, fun q hq => (List.not_mem_nil hq).elim⟩⟩
theorem far_kv (N : Int) : KvOk (farW N) (farH N) (farE N).kvs := by
  obtain ⟨w1, wb, h1, hb⟩ := far_b N
  obtain ⟨I, l⟩ := itF_ok w1 h1 (N / 2 % 6).toNat _ (far_start (n := (sideF (N / 2 / 6)).n))
  have := Int.emod_lt_of_pos (N / 2) (b := 6) (by decide)
  refine I.ok.kv w1 h1 wb hb ?_
  have l : (farE N).kvs.length ≤ 0 + (N / 2 % 6).toNat := l
  exact Nat.le_trans l (by omega)
inductive r_far : Int → List D → D → Int → Prop where
  | mk (N : Int) : r_far N [.int 5] (.tup [.int (farW N), .int (farH N), .dic (farE N).kvs]) (farE N).n
/-! ### _law_mirrors -/
inductive r_lms : List D → D → Prop where
  | mk (kvs : List KeyM) (nd : (kvs.map (·.1)).Nodup) (hl : kvs.length ≤ 20) : r_lms [.dic kvs] (.lst (kvs.map encT))
section
variable {P : Program} {w : World} {K : PySem.W.Frag} {mg : Str → Option Value} {base : Heap} {C : Addr}
theorem ok_lms (d : Df K mg "_law_mirrors" s_law_mirrors) : CallOk P w K mg base "_law_mirrors" 1 ["_law_kinds"] (spP C r_lms) := by
  refine .mk' d (fun f fd F => fn_pure F sc_law_mirrors (fun ds d h => by cases h <;> rfl) fun cdv A outer s0 H E ds d hr h => ?_) (fun _ _ _ _ _ _ us hl => match us, hl with | [_], _ => rfl)
  cases h with
  | mk kvs nd hl =>
    refine ⟨_, (pss_one (ps_ret (pe_lock (pe_lc (own := [("_law_x", 1), ("_law_y", 2)]) (g := (gTup K 2 (gCons (gName 1) (gCons (gName 2) gNil)))) (tt := tYes) rfl sc_law_mirrors.nd (pi_keys (pv 0)) (blkOk_by (own := [("_law_x", 1), ("_law_y", 2)]) (N := N_law_mirrors) (sc := defScope s_law_mirrors) (by decide +kernel)) (fun _ _ _ _ _ => (pg_tup rfl (pgs_cons (pg_name (i := 1) sc_law_mirrors.nd rfl (Or.inl rfl)) (pgs_cons (pg_name (i := 2) sc_law_mirrors.nd rfl (Or.inl rfl)) pgs_nil)))) (fun _ _ _ _ _ => pts_nil) (fun _ _ _ _ _ => (pe_tup (pa_cons (pv 1) (pa_cons (pv 2) (pa_cons (pe_dget (hu_of hr) (pv 0) (pe_tup (pa_cons (pv 1) (pa_cons (pv 2) pa_nil))) (fun _ _ => rfl)) pa_nil))))))))), ?_⟩
    exact rr_ret (ev_keysLc rfl (by decide) (Nat.le_of_ble_eq_true rfl) (Nat.le_of_ble_eq_true rfl) nd (small_line (Nat.le_trans hl (by decide))) (td_var rfl (by decide) (by decide))) rfl
end
end Sw
end
section
open PySem PySem.Spec PyProof.Rows L2 Sw Sd
local macro_rules | `(tactic| walk_at "ev") => `(tactic| first
  | with_reducible exact ev_cI
  | with_reducible exact ev_cS
  | with_reducible exact ev_cB
  | with_reducible exact ev_cN
  | with_reducible exact ea_nil
  | ((with_reducible apply ev_var); rfl)
  | ((with_reducible apply ea_cons); (· walk_at "ev"); (· walk_at "ev"))
  | ((with_reducible apply ev_add); (· walk_at "ev"); (· walk_at "ev"))
  | ((with_reducible apply ev_sub); (· walk_at "ev"); (· walk_at "ev"))
  | ((with_reducible apply ev_min2); (· walk_at "ev"); (· walk_at "ev"))
  | ((with_reducible apply ev_lt); (· walk_at "ev"); (· walk_at "ev"))
  | ((with_reducible apply ev_le); (· walk_at "ev"); (· walk_at "ev"))
  | ((with_reducible apply ev_gt); (· walk_at "ev"); (· walk_at "ev"))
  | ((with_reducible apply ev_ge); (· walk_at "ev"); (· walk_at "ev"))
  | ((with_reducible apply ev_eqI); (· walk_at "ev"); (· walk_at "ev"))
  | ((with_reducible apply ev_eqS); (· walk_at "ev"); (· walk_at "ev"))
  | ((with_reducible apply ev_eqB); (· walk_at "ev"); (· walk_at "ev"))
  | ((with_reducible apply ev_neI); (· walk_at "ev"); (· walk_at "ev"))
  | ((with_reducible apply ev_neg); (· walk_at "ev"))
  | ((with_reducible apply ev_isN); (· walk_at "ev"))
  | ((with_reducible apply ev_notN); (· walk_at "ev"))
  | ((with_reducible apply et_test); (· walk_at "ev"))
  | ((with_reducible apply et_B); (· walk_at "ev"))
  | ((with_reducible apply et_not); (· walk_at "ev"))
  | ((with_reducible apply ev_tup); (· walk_at "ev"); (· exact Nat.le_of_ble_eq_true rfl))
  | ((with_reducible apply ev_lst); (· walk_at "ev"); (· exact Nat.le_of_ble_eq_true rfl))
  | ((with_reducible apply ev_ix); (· walk_at "ev"); (· walk_at "ev"); (· rfl); (· rfl))
  | ((with_reducible apply ev_mulS); (· walk_at "ev"); (· walk_at "ev"); (· first | exact .inl ⟨by decide, by decide⟩ | exact .inr ⟨by decide, by decide⟩))
  | ((with_reducible apply ev_mulW); (· walk_at "ev"); (· walk_at "ev"); (· walk_at "sd"))
  | ((with_reducible apply ev_mod); (· walk_at "ev"); (· walk_at "ev"); (· walk_at "sd"))
  | ((with_reducible apply ev_div); (· walk_at "ev"); (· walk_at "ev"); (· walk_at "sd"))
  | ((with_reducible apply ev_prop); (· walk_at "ev"); (· walk_at "pr"))
  | ((with_reducible apply ev_chain); (· walk_at "ev"); (· walk_at "ev"); (· walk_at "ev"); (· exact r2_cmp); (· exact r2_cmp))
  | ((with_reducible apply ev_call); (· walk_at "ev"); (· walk_at "rel")))
local macro_rules | `(tactic| walk_at "sd") => `(tactic| first | assumption | decide | omega)
local macro_rules | `(tactic| walk_at "ret") => `(tactic| (apply rr_ret; (· walk_at "ev"); (try rfl)))
local macro_rules | `(tactic| walk_at "asg") => `(tactic| (apply run_asg; (· walk_at "ev"); (· walk_at "tgt")))
local macro_rules | `(tactic| walk_at "tgt") => `(tactic| first
  | with_reducible exact eg_name
  | ((apply eg_tup); (· rfl); (· walk_at "tgt"))
  | with_reducible exact egs_nil
  | ((with_reducible apply egs_cons); (· walk_at "tgt"); (· walk_at "tgt")))
local macro_rules | `(tactic| walk_at "set") => `(tactic| (apply rr_seq; (· walk_at "asg")))
local macro_rules | `(tactic| walk_at "par") => `(tactic| (apply rr_seq; (· apply run_par; walk_at "ev")))
local macro_rules | `(tactic| walk_at "asgE") => `(tactic| (apply run_eq; (· walk_at "asg"); (· rfl)))
local macro_rules | `(tactic| walk_at "parE") => `(tactic| (apply run_eq; (· apply run_par; walk_at "ev"); (· rfl)))
local macro_rules | `(tactic| walk_at "evr") => `(tactic| first | (apply et_is; (· walk_at "ev"); (· rfl)) | (apply ev_is; (· walk_at "ev"); (· rfl)))
local macro_rules | `(tactic| walk_at "drop") => `(tactic| (apply rr_seq; (· apply run_drop; walk_at "ev")))

namespace Sw
open Sd
local macro_rules | `(tactic| walk_at "rel") => `(tactic| first
  | exact r_go.mk _ _ _ _ _ _ _ (by assumption) (by assumption) (by assumption) (by assumption) (by assumption)
  | exact r_tog.mk _ _ _ _ _ _ (by assumption) (by assumption) (by assumption) (by assumption)
  | exact r_cnt.mk _ _ _ _ (by assumption) (by assumption)
  | exact r_loc.mk _ _ _ _ (by assumption) (by assumption)
  | exact r_csq.mk _ _ _ _ (by assumption)
  | exact r_cway.mk _ _ _ _ _ (by assumption) (by assumption)
  | exact r_frm.mk _ _ _ (by assumption)
  | exact r_legs.mk _ (by assumption) _ _ _ (by assumption)
  | exact r_str.mk _ _ _ _ _ _ (by assumption) (by assumption) (by assumption) (by assumption)
  | exact r_flen.mk _ _ _ _ _ (by assumption) (by assumption) (by assumption)
  | exact r_steps.mk3 _ (by assumption) _ _ _ _ _
  | exact r_steps.mk2 _ (by assumption) _ _ _ _
  | exact r_tom.mk _ (by assumption) _ _
  | exact r_from.mk _ (by assumption) _ _ _ _ (by assumption)
  | exact r_behind.mk _ _ _ _
  | exact r_gcd.mk _ _ (by assumption) (by assumption) (by assumption) (by assumption)
  | exact r_cls.mk _ _ _ (by assumption)
  | exact r_fsq.mk _ _ (by assumption)
  | exact r_fpt.mk _ _ (by assumption)
  | exact r_pts.mk _ _
  | exact r_unf.mk _ _ _ _)
local macro_rules | `(tactic| walk_at "pr") => `(tactic| first
  | exact r_w.mk _ _ _
  | exact r_h.mk _ _ _
  | exact r_mirs.mk _ _ _ (by assumption))

abbrev farEs (p : Addr) (n fl mn : Int) (sd : D) (w h : Int) (kvs : List KeyM) (x y : Int) (k kd wy : Sl) : Es := [.cel p [.int n], .p (.int 5), .p (.int fl), .p (.int mn), .p sd, .p (.int w), .p (.int h), .oT (kvV kvs), .p (.int x), .p (.int y), k, kd, wy]
/-- runs to a return, one slot told at the end -/
def RunX (C : Addr) (t : TS) (es : Es) (d : D) (sl : Sl) : Prop := ∃ eF, eF[0]? = some sl ∧ Run C t es (.rt d eF)
section
variable {C : Addr} {t u : TS} {es e1 : Es} {d d' : D} {sl : Sl} {te : TE} {g : TG} {i : Nat}
theorem rx_seq (h : Run C t es (.nx e1)) (k : RunX C u e1 d sl) : RunX C (tSeq t u) es d sl := k.imp fun _ k => ⟨k.1, run_seq h k.2⟩
theorem rx_ret (h : EvM C te es d e1) (e : e1[0]? = some sl) : RunX C (tRet te) es d sl := ⟨e1, e, run_ret h⟩
theorem rx_range {n : Int} {ta : TA} {Pst : Es → Prop} (h : EvA C ta es [.int n] e1) (h0 : 0 ≤ n) (h1 : n < 2 ^ 62) (l : ∃ e, LoopR C g t ((List.range n.toNat).map fun (i : Nat) => D.int (i : Int)) e1 (.nx e) ∧ Pst e) (k : ∀ e, Pst e → RunX C u e d sl) : RunX C (tSeq (tFor (iRng1 ta) g t) u) es d sl := by
  obtain ⟨e, a, b⟩ := l
  exact rx_seq (run_range h h0 h1 a) (k e b)
theorem rx_frT {kvs : List KeyM} (hi : es[i]? = some (.oT (kvV kvs))) (k : RunX C t (es.set i (.p (.dic kvs))) d sl) : RunX C t es d sl := k.imp fun _ k => ⟨k.1, run_frT hi k.2⟩
end
theorem sgn_at (b : Bool) : atI [D.int 1, D.int (-1)] (if b then 1 else 0) = some (.int (if b = true then -1 else 1)) := by cases b <;> rfl
theorem sd_at {a b i : Int} (h0 : 0 ≤ i) (h2 : i < 2) : atI [D.int a, D.int b] i = some (.int (if i = 0 then a else b)) ∧ atI [D.int a, D.int b] (1 - i) = some (.int (if i = 0 then b else a)) :=
  two (P := fun i => atI [D.int a, D.int b] i = some (.int (if i = 0 then a else b)) ∧ atI [D.int a, D.int b] (1 - i) = some (.int (if i = 0 then b else a))) ⟨rfl, rfl⟩ ⟨rfl, rfl⟩ h0 h2
section
variable {P : Program} {w : World} {K : PySem.W.Frag} {mg : Str → Option Value} {base : Heap} {C : Addr}
theorem ok_far (d : Df K mg "_law_far" s_law_far) (T : Txt K mg C) (c_law_pick : CallOk P w K mg base "_law_pick" 1 ["_law_well_here", "_law_many"] (spM C r_pick)) (c_law_side : CallOk P w K mg base "_law_side" 2 ["_law_well_here"] (spM C r_side)) :
    CallOk P w K mg base "_law_far" 3 ["_law_well_here", "_law_most"] (spM C r_far) := by
  refine .mk' d (fun f fd F => fn_mut F sc_law_far (fun n ds d n' h => by cases h; rfl) fun cdv A outer s0 H E n ds d n' hr h => ?_) (fun _ _ _ _ _ _ us hl => match us, hl with | [_, _], _ => rfl)
  cases h with
  | mk =>
    refine ⟨_, (pss_cons (ps_set (i := 2) sc_law_far.nd rfl (Or.inl rfl) (pe_callC c_law_pick hr (by decide) rfl (pa_cons (pv 0) (pa_cons pe_int pa_nil))))
      (pss_cons (ps_set (i := 3) sc_law_far.nd rfl (Or.inl rfl) (pe_callC c_law_pick hr (by decide) rfl (pa_cons (pv 0) (pa_cons (pe_op op_add (pv 1) pe_int) pa_nil))))
      (pss_cons (ps_set (i := 4) sc_law_far.nd rfl (Or.inl rfl) (pe_callC c_law_side hr (by decide) rfl (pa_cons (pv 0) pa_nil)))
      (pss_cons (ps_set (i := 5) sc_law_far.nd rfl (Or.inl rfl) (pe_ix ix_seq (pv 4) (pv 2) (fun _ _ => rfl)))
      (pss_cons (ps_set (i := 6) sc_law_far.nd rfl (Or.inl rfl) (pe_ix ix_seq (pv 4) (pe_op op_sub pe_int (pv 2)) (fun _ _ => rfl)))
      (pss_cons (ps_set (i := 7) sc_law_far.nd rfl (Or.inl rfl) pe_dnewT)
      (pss_cons (ps_set (i := 8) sc_law_far.nd rfl (Or.inl rfl) pe_int)
      (pss_cons (ps_set (i := 9) sc_law_far.nd rfl (Or.inl rfl) pe_int)
      (pss_cons (ps_for PassesOwn.never rfl (pi_range1 rfl T.b_range (pa_cons (pv 3) pa_nil)) (pg_name (i := 10) sc_law_far.nd rfl (Or.inl rfl))
      (pss_cons (ps_set (i := 11) sc_law_far.nd rfl (Or.inl rfl) (pe_ix ix_seq pe_str (pe_callC c_law_pick hr (by decide) rfl (pa_cons (pv 0) (pa_cons pe_int pa_nil))) (fun _ _ => rfl)))
      (pss_cons (ps_set (i := 12) sc_law_far.nd rfl (Or.inl rfl) (pe_callC c_law_pick hr (by decide) rfl (pa_cons (pv 0) (pa_cons pe_int pa_nil))))
      (pss_cons (ps_if (PW.pt (pw_and (pt_cmpR op_gt (pv 12) pe_int (nomark _)) (pw_and (pt_cmpR op_gt (pv 8) pe_int (nomark _)) (pw_and (pt_cmpR op_lt (pe_op op_add (pv 8) pe_int) (pe_op op_mul pe_int (pv 5)) (nomark _)) (pw_and1 (pt_cmpR op_lt (pe_op op_add (pv 9) pe_int) (pe_op op_mul pe_int (pv 6)) (nomark _))))))) (pss_cons (ps_set (i := 8) sc_law_far.nd rfl (Or.inl rfl) (pe_op op_add (pv 8) pe_int))
      (pss_one (ps_set (i := 9) sc_law_far.nd rfl (Or.inl rfl) (pe_op op_add (pv 9) (pe_ix ix_seq (pe_lst (pa_cons pe_int (pa_cons (pe_un un_neg pe_int) pa_nil))) (pe_callTy call_int1 rfl T.b_int (by decide +kernel) (pa_cons (pe_and (pe_cmpR op_eq (pv 12) pe_int (nomark _)) (pe_one (pe_cmpR op_gt (pv 9) pe_int (nomark _)))) pa_nil)) (fun _ _ => rfl)))))) (pss_one (ps_if (PW.pt (pw_and (pt_cmpR op_gt (pv 5) pe_int (nomark _)) (pw_and1 (PW.pt (pw_or (pt_cmpR op_eq (pv 12) pe_int (nomark _)) (pw_or (pt_cmpR op_eq (pv 12) pe_int (nomark _)) (pw_or1 (pt_cmpR op_eq (pv 6) pe_int (nomark _))))))))) (pss_cons (ps_set (i := 8) sc_law_far.nd rfl (Or.inl rfl) (pe_op op_add pe_int (pe_op op_mul pe_int (pe_callC c_law_pick hr (by decide) rfl (pa_cons (pv 0) (pa_cons (pe_op op_sub (pv 5) pe_int) pa_nil))))))
      (pss_one (ps_set (i := 9) sc_law_far.nd rfl (Or.inl rfl) (pe_op op_add pe_int (pe_op op_mul pe_int (pe_callC c_law_pick hr (by decide) rfl (pa_cons (pv 0) (pa_cons (pv 6) pa_nil)))))))) (pss_one (ps_if (pt_cmpR op_gt (pv 6) pe_int (nomark _)) (pss_cons (ps_set (i := 8) sc_law_far.nd rfl (Or.inl rfl) (pe_op op_add pe_int (pe_op op_mul pe_int (pe_callC c_law_pick hr (by decide) rfl (pa_cons (pv 0) (pa_cons (pv 5) pa_nil))))))
      (pss_one (ps_set (i := 9) sc_law_far.nd rfl (Or.inl rfl) (pe_op op_add pe_int (pe_op op_mul pe_int (pe_callC c_law_pick hr (by decide) rfl (pa_cons (pv 0) (pa_cons (pe_op op_sub (pv 6) pe_int) pa_nil)))))))) pss_nil)))))
      (pss_one (ps_if (pt_cmpR op_gt (pv 8) pe_int (nomark _)) (pss_one (ps_dput (hu_of hr) (pv 7) (pe_tup (pa_cons (pv 8) (pa_cons (pv 9) pa_nil))) (pv 11) rfl)) pss_nil))))))
      (pss_one (ps_ret (pe_tup (pa_cons (pv 5) (pa_cons (pv 6) (pa_cons (pv 7) pa_nil))))))))))))))), fun p => ?_⟩
    obtain ⟨w1, wb, h1, hb⟩ := far_b n
    have t0 := Int.emod_nonneg n (b := 2) (by decide)
    have t2 := Int.emod_lt_of_pos n (b := 2) (by decide)
    have f0 := Int.emod_nonneg (n / 2) (b := 6) (by decide)
    have f6 := Int.emod_lt_of_pos (n / 2) (b := 6) (by decide)
    have sw := sd_at (a := (sideF (n / 2 / 6)).a) (b := (sideF (n / 2 / 6)).b) t0 t2
    show RunX C _ _ _ _
    refine rx_seq (e1 := [.cel p [.int (n / 2)], .p (.int 5), .p (.int (n % 2)), .no, .no, .no, .no, .no, .no, .no, .no, .no, .no]) (run_eq (run_asg (ev_callM (i := 0) rfl (.c p n (n / 2)) (ea_cons ev_cI ea_nil) (.mk n 2 (by decide) (by decide))) eg_name) rfl) ?_
    refine rx_seq (e1 := [.cel p [.int (n / 2 / 6)], .p (.int 5), .p (.int (n % 2)), .p (.int (n / 2 % 6)), .no, .no, .no, .no, .no, .no, .no, .no, .no]) (run_eq (run_asg (ev_callM (i := 0) rfl (.c p (n / 2) (n / 2 / 6)) (ea_cons (ev_is (d := .int (5 + 1)) (ev_add (ev_var rfl) ev_cI) rfl) ea_nil) (.mk (n / 2) 6 (by decide) (by decide))) eg_name) rfl) ?_
    refine rx_seq (e1 := [.cel p [.int (sideF (n / 2 / 6)).n], .p (.int 5), .p (.int (n % 2)), .p (.int (n / 2 % 6)), .p (.tup [.int (sideF (n / 2 / 6)).a, .int (sideF (n / 2 / 6)).b]), .no, .no, .no, .no, .no, .no, .no, .no]) (run_eq (run_asg (ev_callM (i := 0) rfl (.c p (n / 2 / 6) (sideF (n / 2 / 6)).n) ea_nil (.mk (n / 2 / 6))) eg_name) rfl) ?_
    refine rx_seq (run_asg (d := .int (farW n)) (ev_ix (ev_var rfl) (ev_var rfl) rfl sw.1) eg_name) ?_
    refine rx_seq (run_asg (d := .int (farH n)) (ev_ix (ev_var rfl) (ev_sub ev_cI (ev_var rfl)) rfl sw.2) eg_name) ?_
    refine rx_seq run_newT ?_
    refine rx_seq (run_asg ev_cI eg_name) ?_
    refine rx_seq (run_asg ev_cI eg_name) ?_
    refine rx_range (Pst := fun e => ∃ k kd wy, e = farEs p (farE n).n (n % 2) (n / 2 % 6) (.tup [.int (sideF (n / 2 / 6)).a, .int (sideF (n / 2 / 6)).b]) (farW n) (farH n) (farE n).kvs (farE n).x (farE n).y k kd wy) (ea_cons (ev_var rfl) ea_nil) f0 (by omega) ?loop ?after
    case after =>
      rintro e ⟨k, kd, wy, rfl⟩
      refine rx_frT (i := 7) (kvs := (farE n).kvs) rfl ?_
      exact rx_ret (by walk_at "ev") rfl
    case loop =>
      have start := far_start (w := farW n) (h := farH n) (n := (sideF (n / 2 / 6)).n)
      refine (?_ : ∀ (ks : List Nat) (m : Nat) (s : FS) (k kd wy : Sl), ks.length = m → FarI (farW n) (farH n) s → s.kvs.length + m ≤ 20 → ∃ e, LoopR C _ _ (ks.map fun (i : Nat) => D.int (i : Int)) (farEs p s.n (n % 2) (n / 2 % 6) (.tup [.int (sideF (n / 2 / 6)).a, .int (sideF (n / 2 / 6)).b]) (farW n) (farH n) s.kvs s.x s.y k kd wy) (.nx e) ∧
        ∃ k kd wy, e = farEs p (itF (farW n) (farH n) m s).n (n % 2) (n / 2 % 6) (.tup [.int (sideF (n / 2 / 6)).a, .int (sideF (n / 2 / 6)).b]) (farW n) (farH n) (itF (farW n) (farH n) m s).kvs (itF (farW n) (farH n) m s).x (itF (farW n) (farH n) m s).y k kd wy) (List.range (n / 2 % 6).toNat) (n / 2 % 6).toNat ⟨0, 0, [], (sideF (n / 2 / 6)).n⟩ .no .no .no List.length_range start (by show 0 + _ ≤ 20; omega)
      clear start
      generalize farW n = W at *
      generalize farH n = Hh at *
      generalize (D.tup [.int (sideF (n / 2 / 6)).a, .int (sideF (n / 2 / 6)).b]) = sd
      generalize n % 2 = fl at *
      generalize n / 2 % 6 = mn at *
      intro ks
      induction ks with
      | nil =>
        intro m s k kd wy hm _ _
        subst hm
        exact ⟨_, rfl, k, kd, wy, rfl⟩
      | cons j ks ih =>
        intro m s k kd wy hm I hl
        subst hm
        rw [List.length_cons] at hl
        obtain ⟨I2, hlen⟩ := farStep_ok w1 h1 I
        obtain ⟨e, g1, g2⟩ := ih ks.length (farStep W Hh s) (.p (.int (j : Int))) (.p (.str (kdS (s.n % 2)))) (.p (.int (s.n / 2 % 4))) rfl I2 (by omega)
        refine ⟨e, ⟨_, eg_name, .nx _, ?_, g1⟩, g2⟩
        have a0 := Int.emod_nonneg s.n (b := 2) (by decide)
        have a2 := Int.emod_lt_of_pos s.n (b := 2) (by decide)
        refine run_seq (e1 := farEs p (s.n / 2) fl mn sd W Hh s.kvs s.x s.y (.p (.int (j : Int))) (.p (.str (kdS (s.n % 2)))) wy) (run_eq (run_asg (ev_ixS ev_cS (ev_callM (i := 0) rfl (.c p s.n (s.n / 2)) (ea_cons ev_cI ea_nil) (.mk s.n 2 (by decide) (by decide))) (by decide +kernel) (kd_at a0 a2)) eg_name) rfl) ?_
        refine run_seq (e1 := farEs p (s.n / 2 / 4) fl mn sd W Hh s.kvs s.x s.y (.p (.int (j : Int))) (.p (.str (kdS (s.n % 2)))) (.p (.int (s.n / 2 % 4)))) (run_eq (run_asg (ev_callM (i := 0) rfl (.c p (s.n / 2) (s.n / 2 / 4)) (ea_cons ev_cI ea_nil) (.mk (s.n / 2) 4 (by decide) (by decide))) eg_name) rfl) ?_
        have hp : s.kvs.length < sizeLine := small_line (by omega)
        unfold farStep
        generalize s.n % 2 = kdi
        generalize s.n / 2 % 4 = way
        generalize s.n / 2 / 4 = q
        refine run_seq (e1 := farEs p (farXY W Hh way s q).2.2 fl mn sd W Hh s.kvs (farXY W Hh way s q).1 (farXY W Hh way s q).2.1 (.p (.int (j : Int))) (.p (.str (kdS kdi))) (.p (.int way))) ?move ?put
        case put =>
          generalize farXY W Hh way s q = r
          by_cases c : 0 < r.1
          · dsimp only
            rw [if_pos c]
            refine run_ifT (et_is (et_test (ev_gt (ev_var rfl) ev_cI)) (decide_eq_true c)) rfl ?_
            refine run_eq (run_putT (i := 7) (k1 := r.1) (k2 := r.2.1) (x := .str (kdS kdi)) (w := .str (kdS kdi)) (ev_var rfl) rfl (by walk_at "ev") rfl (by rw [List.length_map]; exact hp)) ?_
            rw [putS_kv]
            rfl
          · dsimp only
            rw [if_neg c]
            exact run_ifF (et_is (et_test (ev_gt (ev_var rfl) ev_cI)) (decide_eq_false c)) rfl run_next
        case move =>
          unfold farXY
          split
          · rename_i c
            refine run_ifT (et_and (by walk_at "ev") (fun _ => et_and (by walk_at "ev") (fun _ => et_and (by walk_at "ev") (fun _ => by walk_at "ev")))) c ?_
            refine run_seq (by walk_at "asg") ?_
            exact run_eq (run_asg (ev_add (ev_var rfl) (ev_ix (ev_lst (ea_cons ev_cI (ea_cons (ev_neg ev_cI) ea_nil)) (Nat.le_of_ble_eq_true rfl)) (ev_intB (ev_andV (by walk_at "ev") (fun _ => by walk_at "ev"))) rfl (sgn_at (decide (way = 3) && decide (1 < s.y))))) eg_name) rfl
          · rename_i c
            refine run_ifF (et_and (by walk_at "ev") (fun _ => et_and (by walk_at "ev") (fun _ => et_and (by walk_at "ev") (fun _ => by walk_at "ev")))) (Bool.eq_false_iff.mpr c) ?_
            split
            · rename_i c2
              have c3 := c2
              simp only [Bool.and_eq_true, decide_eq_true_eq] at c3
              refine run_ifT (et_and (by walk_at "ev") (fun _ => et_or (by walk_at "ev") (fun _ => et_or (by walk_at "ev") (fun _ => by walk_at "ev")))) c2 ?_
              refine run_seq (run_asg (ev_add ev_cI (ev_mulS ev_cI (ev_callM (i := 0) rfl (.c p q (q / (W - 1))) (ea_cons (ev_sub (ev_var rfl) ev_cI) ea_nil) (.mk q (W - 1) (by omega) (by omega))) (.inl ⟨by decide, by decide⟩))) eg_name) ?_
              exact run_eq (run_asg (ev_add ev_cI (ev_mulS ev_cI (ev_callM (i := 0) rfl (.c p (q / (W - 1)) (q / (W - 1) / Hh)) (ea_cons (ev_var rfl) ea_nil) (.mk (q / (W - 1)) Hh (by omega) (by omega))) (.inl ⟨by decide, by decide⟩))) eg_name) rfl
            · rename_i c2
              refine run_ifF (et_and (by walk_at "ev") (fun _ => et_or (by walk_at "ev") (fun _ => et_or (by walk_at "ev") (fun _ => by walk_at "ev")))) (Bool.eq_false_iff.mpr c2) ?_
              split
              · rename_i c4
                have c5 := of_decide_eq_true c4
                refine run_ifT (by walk_at "ev") c4 ?_
                refine run_seq (run_asg (ev_add ev_cI (ev_mulS ev_cI (ev_callM (i := 0) rfl (.c p q (q / W)) (ea_cons (ev_var rfl) ea_nil) (.mk q W (by omega) (by omega))) (.inl ⟨by decide, by decide⟩))) eg_name) ?_
                exact run_eq (run_asg (ev_add ev_cI (ev_mulS ev_cI (ev_callM (i := 0) rfl (.c p (q / W) (q / W / (Hh - 1))) (ea_cons (ev_sub (ev_var rfl) ev_cI) ea_nil) (.mk (q / W) (Hh - 1) (by omega) (by omega))) (.inl ⟨by decide, by decide⟩))) eg_name) rfl
              · rename_i c4
                exact run_ifF (by walk_at "ev") (Bool.eq_false_iff.mpr c4) run_next
end
end Sw
end
section
open PySem PySem.Spec PyProof.Rows L2 Sw Sd
local macro_rules | `(tactic| walk_at "ev") => `(tactic| first
  | with_reducible exact ev_cI
  | with_reducible exact ev_cS
  | with_reducible exact ev_cB
  | with_reducible exact ev_cN
  | with_reducible exact ea_nil
  | ((with_reducible apply ev_var); rfl)
  | ((with_reducible apply ea_cons); (· walk_at "ev"); (· walk_at "ev"))
  | ((with_reducible apply ev_add); (· walk_at "ev"); (· walk_at "ev"))
  | ((with_reducible apply ev_sub); (· walk_at "ev"); (· walk_at "ev"))
  | ((with_reducible apply ev_min2); (· walk_at "ev"); (· walk_at "ev"))
  | ((with_reducible apply ev_lt); (· walk_at "ev"); (· walk_at "ev"))
  | ((with_reducible apply ev_le); (· walk_at "ev"); (· walk_at "ev"))
  | ((with_reducible apply ev_gt); (· walk_at "ev"); (· walk_at "ev"))
  | ((with_reducible apply ev_ge); (· walk_at "ev"); (· walk_at "ev"))
  | ((with_reducible apply ev_eqI); (· walk_at "ev"); (· walk_at "ev"))
  | ((with_reducible apply ev_eqS); (· walk_at "ev"); (· walk_at "ev"))
  | ((with_reducible apply ev_eqB); (· walk_at "ev"); (· walk_at "ev"))
  | ((with_reducible apply ev_neI); (· walk_at "ev"); (· walk_at "ev"))
  | ((with_reducible apply ev_neg); (· walk_at "ev"))
  | ((with_reducible apply ev_isN); (· walk_at "ev"))
  | ((with_reducible apply ev_notN); (· walk_at "ev"))
  | ((with_reducible apply et_test); (· walk_at "ev"))
  | ((with_reducible apply et_B); (· walk_at "ev"))
  | ((with_reducible apply et_not); (· walk_at "ev"))
  | ((with_reducible apply ev_tup); (· walk_at "ev"); (· exact Nat.le_of_ble_eq_true rfl))
  | ((with_reducible apply ev_lst); (· walk_at "ev"); (· exact Nat.le_of_ble_eq_true rfl))
  | ((with_reducible apply ev_ix); (· walk_at "ev"); (· walk_at "ev"); (· rfl); (· rfl))
  | ((with_reducible apply ev_mulS); (· walk_at "ev"); (· walk_at "ev"); (· first | exact .inl ⟨by decide, by decide⟩ | exact .inr ⟨by decide, by decide⟩))
  | ((with_reducible apply ev_mulW); (· walk_at "ev"); (· walk_at "ev"); (· walk_at "sd"))
  | ((with_reducible apply ev_mod); (· walk_at "ev"); (· walk_at "ev"); (· walk_at "sd"))
  | ((with_reducible apply ev_div); (· walk_at "ev"); (· walk_at "ev"); (· walk_at "sd"))
  | ((with_reducible apply ev_prop); (· walk_at "ev"); (· walk_at "pr"))
  | ((with_reducible apply ev_chain); (· walk_at "ev"); (· walk_at "ev"); (· walk_at "ev"); (· exact r2_cmp); (· exact r2_cmp))
  | ((with_reducible apply ev_call); (· walk_at "ev"); (· walk_at "rel")))
local macro_rules | `(tactic| walk_at "sd") => `(tactic| first | assumption | decide | omega)
local macro_rules | `(tactic| walk_at "ret") => `(tactic| (apply rr_ret; (· walk_at "ev"); (try rfl)))
local macro_rules | `(tactic| walk_at "asg") => `(tactic| (apply run_asg; (· walk_at "ev"); (· walk_at "tgt")))
local macro_rules | `(tactic| walk_at "tgt") => `(tactic| first
  | with_reducible exact eg_name
  | ((apply eg_tup); (· rfl); (· walk_at "tgt"))
  | with_reducible exact egs_nil
  | ((with_reducible apply egs_cons); (· walk_at "tgt"); (· walk_at "tgt")))
local macro_rules | `(tactic| walk_at "set") => `(tactic| (apply rr_seq; (· walk_at "asg")))
local macro_rules | `(tactic| walk_at "par") => `(tactic| (apply rr_seq; (· apply run_par; walk_at "ev")))
local macro_rules | `(tactic| walk_at "asgE") => `(tactic| (apply run_eq; (· walk_at "asg"); (· rfl)))
local macro_rules | `(tactic| walk_at "parE") => `(tactic| (apply run_eq; (· apply run_par; walk_at "ev"); (· rfl)))
local macro_rules | `(tactic| walk_at "evr") => `(tactic| first | (apply et_is; (· walk_at "ev"); (· rfl)) | (apply ev_is; (· walk_at "ev"); (· rfl)))
local macro_rules | `(tactic| walk_at "drop") => `(tactic| (apply rr_seq; (· apply run_drop; walk_at "ev")))

namespace Sw
open Sd
local macro_rules | `(tactic| walk_at "rel") => `(tactic| first
  | exact r_go.mk _ _ _ _ _ _ _ (by assumption) (by assumption) (by assumption) (by assumption) (by assumption)
  | exact r_tog.mk _ _ _ _ _ _ (by assumption) (by assumption) (by assumption) (by assumption)
  | exact r_cnt.mk _ _ _ _ (by assumption) (by assumption)
  | exact r_loc.mk _ _ _ _ (by assumption) (by assumption)
  | exact r_csq.mk _ _ _ _ (by assumption)
  | exact r_cway.mk _ _ _ _ _ (by assumption) (by assumption)
  | exact r_frm.mk _ _ _ (by assumption)
  | exact r_legs.mk _ (by assumption) _ _ _ (by assumption)
  | exact r_str.mk _ _ _ _ _ _ (by assumption) (by assumption) (by assumption) (by assumption)
  | exact r_flen.mk _ _ _ _ _ (by assumption) (by assumption) (by assumption)
  | exact r_steps.mk3 _ (by assumption) _ _ _ _ _
  | exact r_steps.mk2 _ (by assumption) _ _ _ _
  | exact r_tom.mk _ (by assumption) _ _
  | exact r_from.mk _ (by assumption) _ _ _ _ (by assumption)
  | exact r_behind.mk _ _ _ _
  | exact r_gcd.mk _ _ (by assumption) (by assumption) (by assumption) (by assumption)
  | exact r_cls.mk _ _ _ (by assumption)
  | exact r_fsq.mk _ _ (by assumption)
  | exact r_fpt.mk _ _ (by assumption)
  | exact r_pts.mk _ _
  | exact r_unf.mk _ _ _ _)
local macro_rules | `(tactic| walk_at "pr") => `(tactic| first
  | exact r_w.mk _ _ _
  | exact r_h.mk _ _ _
  | exact r_mirs.mk _ _ _ (by assumption))

section
variable {C : Addr} {es e1 : Es} {t1 t2 t3 tv : TE} {d1 d2 d3 d : D} {i j : Nat}
theorem SR.own2 {G H : Hp} {σ : St} {p : Addr} {u : HO} {sl : Sl} (s : SR C G H es σ) (hG : G p = none) (hO : ¬ Ow es σ p) (h : SlOk C G (upd H p u) sl (some (.ref p))) :
    SR C G (upd H p u) (es.set i sl) (σ.set i (some (.ref p))) ∧ ∀ a, a ≠ p → ¬ Ow es σ a → ¬ Ow (es.set i sl) (σ.set i (some (.ref p))) a := by
  have s' := s.off (u := u) hG hO
  refine ⟨⟨s'.gh, by rw [List.length_set, List.length_set, s.len], fun k sl' e => ?_, fun k l sa sb a q1 q2 o1 o2 q3 q4 => ?_⟩, fun a hap h3 ⟨k, sl', e, w, e2⟩ => h3 ?_⟩
  · rcases set_get e with ⟨rfl, rfl, hl⟩ | ⟨c, e⟩
    · exact ⟨_, List.getElem?_set_self (by rw [s.len]; exact hl), h⟩
    · rw [List.getElem?_set_ne (Ne.symm c)]
      exact s'.ok k sl' e
  · rcases set_get q1 with ⟨x1, x2, hl1⟩ | ⟨c1, r1⟩
    · rcases set_get q2 with ⟨x3, x4, hl2⟩ | ⟨c2, r2⟩
      · rw [x1, x3]
      · rw [x1, List.getElem?_set_self (by rw [s.len]; exact hl1)] at q3
        cases q3
        rw [List.getElem?_set_ne (Ne.symm c2)] at q4
        exact absurd ⟨l, sb, r2, o2, q4⟩ hO
    · rw [List.getElem?_set_ne (Ne.symm c1)] at q3
      rcases set_get q2 with ⟨x3, x4, hl2⟩ | ⟨c2, r2⟩
      · rw [x3, List.getElem?_set_self (by rw [s.len]; exact hl2)] at q4
        cases q4
        exact absurd ⟨k, sa, r1, o1, q3⟩ hO
      · rw [List.getElem?_set_ne (Ne.symm c2)] at q4
        exact s.one k l sa sb a r1 r2 o1 o2 q3 q4
  · rcases set_get e with ⟨rfl, rfl, hl⟩ | ⟨c, e⟩
    · rw [List.getElem?_set_self (by rw [s.len]; exact hl)] at e2
      cases e2
      exact absurd rfl hap
    · rw [List.getElem?_set_ne (Ne.symm c)] at e2
      exact ⟨k, sl', e, w, e2⟩
/-- name = {text: e, text: e, text: e} -/
theorem run_disp3 {k1 k2 k3 : Str} (h1 : EvM C t1 es d1 es) (h2 : EvM C t2 es d2 es) (h3 : EvM C t3 es d3 es) (n12 : k1 ≠ k2) (n13 : k1 ≠ k3) (n23 : k2 ≠ k3) :
    Run C (tAsg (tDisp [(tC (.str k1), t1), (tC (.str k2), t2), (tC (.str k3), t3)]) (gName i)) es (.nx (es.set i (.oD [(k1, d1), (k2, d2), (k3, d3)]))) := fun W G H σ s q p hp => by
  have hG := s.gh.nn hp
  have hO : ¬ Ow es σ p := fun ⟨k, sl, e, w, q2⟩ => by
    obtain ⟨o, e3, ho⟩ := s.ok k sl e
    obtain ⟨b, u, e4, _, e5⟩ := ho.adr w
    rw [e4, q2] at e3
    cases e3
    rw [hp] at e5; cases e5
  have s0 := s.off (u := .dK []) hG hO
  refine h1 G _ σ _ s0 fun v1 G1 H1 s1 l1 r1 => h2 G1 H1 σ _ s1 fun v2 G2 H2 s2 l2 r2 => h3 G2 H2 σ _ s2 fun v3 G3 H3 s3 l3 r3 => ?_
  have l := (l1.trans l2).trans l3
  obtain ⟨k1', k2', k3'⟩ := l.kp p hG (by rw [upd_same]; exact Option.some_ne_none _) hO
  rw [upd_same] at k1'
  refine ⟨k1', [(Sum.inr k1, v1), (Sum.inr k2, v2), (Sum.inr k3, v3)], rfl, Nat.le_of_ble_eq_true rfl, ?_⟩
  have em : mergeK [] [((Sum.inr k1 : Key), v1), (Sum.inr k2, v2), (Sum.inr k3, v3)] = [(Sum.inr k1, v1), (Sum.inr k2, v2), (Sum.inr k3, v3)] := by
    simp [mergeK, putK, n12, n13, n23]
  rw [em]
  obtain ⟨s4, ow⟩ := s3.own2 (i := i) (u := .dK [((Sum.inr k1 : Key), v1), (Sum.inr k2, v2), (Sum.inr k3, v3)]) (sl := .oD [(k1, d1), (k2, d2), (k3, d3)]) k2' k3'
    ⟨p, _, rfl, k2', upd_same, rfl, .cons (r1.mono (l2.gx.trans l3.gx)) (.cons (r2.mono l3.gx) (.one r3))⟩
  refine q _ _ _ s4 ⟨l.gx, fun a a1 a2 a3 => ?_⟩
  have hap : a ≠ p := fun e => a2 (by rw [e]; exact hp)
  obtain ⟨z1, z2, z3⟩ := l.kp a a1 (by rw [upd_ne hap]; exact a2) a3
  rw [upd_ne hap] at z1
  exact ⟨by rw [upd_ne hap]; exact z1, z2, ow a hap z3⟩
theorem oD_val {us : List (Key × V)} {kvs : List (Str × D)} {G : Hp} {k : Str} : us.map (·.1) = kvs.map (fun q => (Sum.inr q.1 : Key)) → RpL C G (kvs.map (·.2)) (us.map (·.2)) → ∀ {d : D}, (kvs.find? fun q => decide (q.1 = k)).map (·.2) = some d → ∃ v, valV us (Sum.inr k) = some v ∧ Rp C G d v := by
  intro e r
  induction kvs generalizing us with
  | nil => intro d h; cases h
  | cons q l ih =>
    intro d h
    cases us with
    | nil => simp at e
    | cons u us =>
      rw [List.map_cons, List.map_cons] at e
      obtain ⟨e1, e2⟩ := List.cons.inj e
      rw [List.map_cons, List.map_cons] at r
      simp only [RpL] at r
      obtain ⟨v, w, ew, r1, r2⟩ := r
      obtain ⟨ev, rfl⟩ := List.cons.inj ew
      by_cases c : q.1 = k
      · rw [List.find?_cons_of_pos (by simpa using c)] at h
        cases h
        exact ⟨u.2, valV_pos (e1.trans (by rw [c])), by rw [ev]; exact r1⟩
      · rw [List.find?_cons_of_neg (by simpa using c)] at h
        obtain ⟨v', h1, h2⟩ := ih e2 r2 h
        exact ⟨v', by rw [valV_neg (fun z => c (Sum.inr.inj (e1.symm.trans z)))]; exact h1, h2⟩
theorem run_putD {kvs : List (Str × D)} {k : Str} (h0 : es[i]? = some (.oD kvs)) (hv : EvM C tv es d es) (hk : k ∉ kvs.map (·.1)) (hl : kvs.length < sizeLine) : Run C (sDPut (tVar i) (tC (.str k)) tv) es (.nx (es.set i (.oD (kvs ++ [(k, d)])))) := fun W G H σ s q =>
  hv G H σ _ s fun v G1 H1 s1 l1 r => by
    obtain ⟨o, e, a, us, rfl, hG, hH, hks, rs⟩ := s1.ok i _ h0
    have hlu : us.length = kvs.length := by have := congrArg List.length hks; simpa using this
    have hany : (us.any fun kv => decide (kv.1 = Sum.inr k)) = false := by
      rw [List.any_eq_false]
      intro x hx
      simp only [decide_eq_true_eq]
      intro z
      have hm : x.1 ∈ kvs.map (fun q => (Sum.inr q.1 : Key)) := by rw [← hks]; exact List.mem_map.mpr ⟨x, hx, rfl⟩
      obtain ⟨y, hy, ey⟩ := List.mem_map.mp hm
      rw [z] at ey
      exact hk (List.mem_map.mpr ⟨y, hy, Sum.inr.inj ey⟩)
    have hput : putK us (Sum.inr k) v = us ++ [(Sum.inr k, v)] := by unfold putK; rw [hany]; rfl
    refine ⟨_, e, a, _, rfl, .inl ⟨us, Sum.inr k, hH, rfl, by rw [hlu]; exact hl, rfl⟩, ?_⟩
    rw [hput]
    obtain ⟨s2, l2⟩ := s1.chg (sl' := .oD (kvs ++ [(k, d)])) (u := .dK (us ++ [(Sum.inr k, v)])) h0 rfl rfl e hG ⟨a, _, rfl, hG, upd_same, by rw [List.map_append, List.map_append, hks]; rfl, by rw [List.map_append, List.map_append]; exact rs.append (.one r)⟩
    exact q _ _ _ s2 (l1.trans l2)
theorem ev_getD {kvs : List (Str × D)} {k : Str} (h0 : es[i]? = some (.oD kvs)) (hk : es[j]? = some (.p (.str k))) (hd : (kvs.find? fun q => decide (q.1 = k)).map (·.2) = some d) : EvM C (tDGet (tVar i) (tVar j)) es d es := fun G H σ Q s q => by
  obtain ⟨o, e, a, us, rfl, hG, hH, hks, rs⟩ := s.ok i _ h0
  obtain ⟨o2, e2, v2, rfl, r2⟩ := s.ok j _ hk
  simp only [Rp] at r2
  subst r2
  obtain ⟨v, h1, h2⟩ := oD_val hks rs hd
  exact ⟨_, e, _, e2, a, v, rfl, .inl ⟨us, Sum.inr k, .inl hH, rfl, h1.symm⟩, q v G H s Rel.refl h2⟩
end
section
variable {P : Program} {w : World} {K : PySem.W.Frag} {mg : Str → Option Value} {base : Heap} {C : Addr}
/-! ### _law_moved, _law_moved_square -/
inductive r_mvd : List D → D → Prop where
  | mk (way : Str) (t : Tn) (w h : Int) (p : P2) (ht : WayT way t) : r_mvd [.str way, .int w, .int h, dP p] (dP (mpt t w h p))
theorem ok_mvd (d : Df K mg "_law_moved" s_law_moved) : CallOk P w K mg base "_law_moved" 1 ["_law_way", "_law_wide", "_law_high", "_law_place"] (spP C r_mvd) := by
  refine .mk' d (fun f fd F => fn_pure F sc_law_moved (fun ds d h => by cases h <;> rfl) fun cdv A outer s0 H E ds d hr h => ?_) (fun _ _ _ _ _ _ us hl => match us, hl with | [_, _, _, _], _ => rfl)
  cases h with
  | mk way t w0 h0 p ht =>
    obtain ⟨x, y⟩ := p
    refine ⟨_, (pss_cons (ps_asg (pv 3) (pg_tup rfl (pgs_cons (pg_name (i := 4) sc_law_moved.nd rfl (Or.inl rfl)) (pgs_cons (pg_name (i := 5) sc_law_moved.nd rfl (Or.inl rfl)) pgs_nil))))
      (pss_cons (ps_set (i := 6) sc_law_moved.nd rfl (Or.inl rfl) (pe_disp (pps_cons pe_str (pe_tup (pa_cons (pv 4) (pa_cons (pv 5) pa_nil))) (pps_cons pe_str (pe_tup (pa_cons (pe_op op_sub (pe_op op_mul pe_int (pv 2)) (pv 5)) (pa_cons (pv 4) pa_nil))) (pps_cons pe_str (pe_tup (pa_cons (pe_op op_sub (pe_op op_mul pe_int (pv 1)) (pv 4)) (pa_cons (pe_op op_sub (pe_op op_mul pe_int (pv 2)) (pv 5)) pa_nil))) pps_nil))) (by rfl) (by rfl) (fun z => by cases z) (by decide)))
      (pss_cons (ps_dput (hu_of hr) (pv 6) pe_str (pe_tup (pa_cons (pv 5) (pa_cons (pe_op op_sub (pe_op op_mul pe_int (pv 1)) (pv 4)) pa_nil))) rfl)
      (pss_cons (ps_dput (hu_of hr) (pv 6) pe_str (pe_tup (pa_cons (pv 4) (pa_cons (pe_op op_sub (pe_op op_mul pe_int (pv 2)) (pv 5)) pa_nil))) rfl)
      (pss_cons (ps_dput (hu_of hr) (pv 6) pe_str (pe_tup (pa_cons (pe_op op_sub (pe_op op_mul pe_int (pv 1)) (pv 4)) (pa_cons (pv 5) pa_nil))) rfl)
      (pss_cons (ps_dput (hu_of hr) (pv 6) pe_str (pe_tup (pa_cons (pv 5) (pa_cons (pv 4) pa_nil))) rfl)
      (pss_cons (ps_dput (hu_of hr) (pv 6) pe_str (pe_tup (pa_cons (pe_op op_sub (pe_op op_mul pe_int (pv 2)) (pv 5)) (pa_cons (pe_op op_sub (pe_op op_mul pe_int (pv 1)) (pv 4)) pa_nil))) rfl)
      (pss_one (ps_ret (pe_dget (hu_of hr) (pv 6) (pv 0) (fun _ _ => rfl))))))))))), ?_⟩
    walk_at "set"
    refine rr_seq (run_disp3 (i := 6) (by walk_at "ev") (by walk_at "ev") (by walk_at "ev") (by decide +kernel) (by decide +kernel) (by decide +kernel)) ?_
    refine rr_seq (run_putD (i := 6) rfl (by walk_at "ev") (by show (("back" : Str) ∉ (["same", "quarter", "half"] : List Str)); decide +kernel) (small_line (Nat.le_of_ble_eq_true rfl))) ?_
    refine rr_seq (run_putD (i := 6) rfl (by walk_at "ev") (by show (("flip" : Str) ∉ (["same", "quarter", "half", "back"] : List Str)); decide +kernel) (small_line (Nat.le_of_ble_eq_true rfl))) ?_
    refine rr_seq (run_putD (i := 6) rfl (by walk_at "ev") (by show (("mirror" : Str) ∉ (["same", "quarter", "half", "back", "flip"] : List Str)); decide +kernel) (small_line (Nat.le_of_ble_eq_true rfl))) ?_
    refine rr_seq (run_putD (i := 6) rfl (by walk_at "ev") (by show (("cross" : Str) ∉ (["same", "quarter", "half", "back", "flip", "mirror"] : List Str)); decide +kernel) (small_line (Nat.le_of_ble_eq_true rfl))) ?_
    refine rr_seq (run_putD (i := 6) rfl (by walk_at "ev") (by show (("anti" : Str) ∉ (["same", "quarter", "half", "back", "flip", "mirror", "cross"] : List Str)); decide +kernel) (small_line (Nat.le_of_ble_eq_true rfl))) ?_
    refine rr_ret (ev_getD (i := 6) (j := 0) rfl rfl ?_) rfl
    cases ht <;> rfl
end
end Sw
end
section
open PySem PySem.Spec PyProof.Rows L2 Sw Sd
local macro_rules | `(tactic| walk_at "ev") => `(tactic| first
  | with_reducible exact ev_cI
  | with_reducible exact ev_cS
  | with_reducible exact ev_cB
  | with_reducible exact ev_cN
  | with_reducible exact ea_nil
  | ((with_reducible apply ev_var); rfl)
  | ((with_reducible apply ea_cons); (· walk_at "ev"); (· walk_at "ev"))
  | ((with_reducible apply ev_add); (· walk_at "ev"); (· walk_at "ev"))
  | ((with_reducible apply ev_sub); (· walk_at "ev"); (· walk_at "ev"))
  | ((with_reducible apply ev_min2); (· walk_at "ev"); (· walk_at "ev"))
  | ((with_reducible apply ev_lt); (· walk_at "ev"); (· walk_at "ev"))
  | ((with_reducible apply ev_le); (· walk_at "ev"); (· walk_at "ev"))
  | ((with_reducible apply ev_gt); (· walk_at "ev"); (· walk_at "ev"))
  | ((with_reducible apply ev_ge); (· walk_at "ev"); (· walk_at "ev"))
  | ((with_reducible apply ev_eqI); (· walk_at "ev"); (· walk_at "ev"))
  | ((with_reducible apply ev_eqS); (· walk_at "ev"); (· walk_at "ev"))
  | ((with_reducible apply ev_eqB); (· walk_at "ev"); (· walk_at "ev"))
  | ((with_reducible apply ev_neI); (· walk_at "ev"); (· walk_at "ev"))
  | ((with_reducible apply ev_neg); (· walk_at "ev"))
  | ((with_reducible apply ev_isN); (· walk_at "ev"))
  | ((with_reducible apply ev_notN); (· walk_at "ev"))
  | ((with_reducible apply et_test); (· walk_at "ev"))
  | ((with_reducible apply et_B); (· walk_at "ev"))
  | ((with_reducible apply et_not); (· walk_at "ev"))
  | ((with_reducible apply ev_tup); (· walk_at "ev"); (· exact Nat.le_of_ble_eq_true rfl))
  | ((with_reducible apply ev_lst); (· walk_at "ev"); (· exact Nat.le_of_ble_eq_true rfl))
  | ((with_reducible apply ev_ix); (· walk_at "ev"); (· walk_at "ev"); (· rfl); (· rfl))
  | ((with_reducible apply ev_mulS); (· walk_at "ev"); (· walk_at "ev"); (· first | exact .inl ⟨by decide, by decide⟩ | exact .inr ⟨by decide, by decide⟩))
  | ((with_reducible apply ev_mulW); (· walk_at "ev"); (· walk_at "ev"); (· walk_at "sd"))
  | ((with_reducible apply ev_mod); (· walk_at "ev"); (· walk_at "ev"); (· walk_at "sd"))
  | ((with_reducible apply ev_div); (· walk_at "ev"); (· walk_at "ev"); (· walk_at "sd"))
  | ((with_reducible apply ev_prop); (· walk_at "ev"); (· walk_at "pr"))
  | ((with_reducible apply ev_chain); (· walk_at "ev"); (· walk_at "ev"); (· walk_at "ev"); (· exact r2_cmp); (· exact r2_cmp))
  | ((with_reducible apply ev_call); (· walk_at "ev"); (· walk_at "rel")))
local macro_rules | `(tactic| walk_at "sd") => `(tactic| first | assumption | decide | omega)
local macro_rules | `(tactic| walk_at "ret") => `(tactic| (apply rr_ret; (· walk_at "ev"); (try rfl)))
local macro_rules | `(tactic| walk_at "asg") => `(tactic| (apply run_asg; (· walk_at "ev"); (· walk_at "tgt")))
local macro_rules | `(tactic| walk_at "tgt") => `(tactic| first
  | with_reducible exact eg_name
  | ((apply eg_tup); (· rfl); (· walk_at "tgt"))
  | with_reducible exact egs_nil
  | ((with_reducible apply egs_cons); (· walk_at "tgt"); (· walk_at "tgt")))
local macro_rules | `(tactic| walk_at "set") => `(tactic| (apply rr_seq; (· walk_at "asg")))
local macro_rules | `(tactic| walk_at "par") => `(tactic| (apply rr_seq; (· apply run_par; walk_at "ev")))
local macro_rules | `(tactic| walk_at "asgE") => `(tactic| (apply run_eq; (· walk_at "asg"); (· rfl)))
local macro_rules | `(tactic| walk_at "parE") => `(tactic| (apply run_eq; (· apply run_par; walk_at "ev"); (· rfl)))
local macro_rules | `(tactic| walk_at "evr") => `(tactic| first | (apply et_is; (· walk_at "ev"); (· rfl)) | (apply ev_is; (· walk_at "ev"); (· rfl)))
local macro_rules | `(tactic| walk_at "drop") => `(tactic| (apply rr_seq; (· apply run_drop; walk_at "ev")))

namespace Sw
open Sd
local macro_rules | `(tactic| walk_at "rel") => `(tactic| first
  | exact r_go.mk _ _ _ _ _ _ _ (by assumption) (by assumption) (by assumption) (by assumption) (by assumption)
  | exact r_tog.mk _ _ _ _ _ _ (by assumption) (by assumption) (by assumption) (by assumption)
  | exact r_cnt.mk _ _ _ _ (by assumption) (by assumption)
  | exact r_loc.mk _ _ _ _ (by assumption) (by assumption)
  | exact r_csq.mk _ _ _ _ (by assumption)
  | exact r_cway.mk _ _ _ _ _ (by assumption) (by assumption)
  | exact r_frm.mk _ _ _ (by assumption)
  | exact r_legs.mk _ (by assumption) _ _ _ (by assumption)
  | exact r_str.mk _ _ _ _ _ _ (by assumption) (by assumption) (by assumption) (by assumption)
  | exact r_flen.mk _ _ _ _ _ (by assumption) (by assumption) (by assumption)
  | exact r_steps.mk3 _ (by assumption) _ _ _ _ _
  | exact r_steps.mk2 _ (by assumption) _ _ _ _
  | exact r_tom.mk _ (by assumption) _ _
  | exact r_from.mk _ (by assumption) _ _ _ _ (by assumption)
  | exact r_behind.mk _ _ _ _
  | exact r_gcd.mk _ _ (by assumption) (by assumption) (by assumption) (by assumption)
  | exact r_cls.mk _ _ _ (by assumption)
  | exact r_fsq.mk _ _ (by assumption)
  | exact r_fpt.mk _ _ (by assumption)
  | exact r_pts.mk _ _
  | exact r_unf.mk _ _ _ _)
local macro_rules | `(tactic| walk_at "pr") => `(tactic| first
  | exact r_w.mk _ _ _
  | exact r_h.mk _ _ _
  | exact r_mirs.mk _ _ _ (by assumption))

/-! ### _law_points, _law_unfolded -/
inductive r_lpts : List D → D → Prop where
  | mk (s : P2) : r_lpts [dP s] (ptsD s)
inductive r_lunf : List D → D → Prop where
  | mk (s p : P2) : r_lunf [dP s, dP p] (dP (unf s p))
/-! ### _law_divisor -/
structure IsG (a b g : Int) : Prop where
  pos : 0 < g
  da : g ∣ a
  db : g ∣ b
  gr : ∀ e, e ∣ a → e ∣ b → e ∣ g
theorem IsG.end_ {a g : Int} (h : IsG a 0 g) (ha : 0 < a) : a = g := by
  have h1 := h.gr a (Int.dvd_refl a) ⟨0, by simp⟩
  have h2 := Int.le_of_dvd h.pos h1
  have h3 := Int.le_of_dvd ha h.da
  omega
theorem IsG.step {a b g : Int} (h : IsG a b g) : IsG b (a % b) g := by
  have e := Int.emod_add_mul_ediv a b
  refine ⟨h.pos, h.db, ?_, fun e' h1 h2 => h.gr e' ?_ h1⟩
  · obtain ⟨x, hx⟩ := h.da
    obtain ⟨y, hy⟩ := h.db
    refine ⟨x - y * (a / b), ?_⟩
    rw [Int.mul_sub, ← Int.mul_assoc, ← hx, ← hy]
    omega
  · obtain ⟨x, hx⟩ := h1
    obtain ⟨y, hy⟩ := h2
    refine ⟨y + x * (a / b), ?_⟩
    rw [Int.mul_add, ← Int.mul_assoc, ← hx, ← hy]
    omega
theorem half_mod {b r : Int} (r0 : 0 < r) (h : r < b) : 2 * (b % r) < b := by
  have h1 := Int.emod_lt_of_pos b r0
  have e := Int.emod_add_mul_ediv b r
  have h2 : 1 ≤ b / r := by
    rw [Int.le_ediv_iff_mul_le r0]; omega
  have h3 : r * 1 ≤ r * (b / r) := Int.mul_le_mul_of_nonneg_left h2 (by omega)
  omega
theorem isG_ex {a b : Int} (ha : 0 < a) (hb : 0 < b) : ∃ g, IsG a b g := by
  have ok := gcdf_ok (a := a) (b := b) ha hb
  exact ⟨_, ok.g0, ok.ga, ok.gb, fun e h1 h2 => ok.great h1 h2⟩
inductive r_div : List D → D → Prop where
  | mk (a b g : Int) (ha : 0 < a) (hb : 0 < b) (kb : b < 2 ^ 120) (G : IsG a b g) : r_div [.int a, .int b] (.int g)
/-! ### _law_bare_step -/
inductive r_stp : List D → D → Prop where
  | mk (w h : Int) (s p : P2) (n : Int) (hw : 1 ≤ w) (hh : 1 ≤ h) : r_stp [.int w, .int h, dP s, dP p, .int n] (.tup [dP (located w h (shift (unf s p) n)).1, dP (located w h (shift (unf s p) n)).2])
inductive r_msq : List D → D → Prop where
  | mk (way : Str) (t : Tn) (w h : Int) (s : P2) (ht : WayT way t) : r_msq [.str way, .int w, .int h, dP s] (dP (msq t w h s))
def dvB (K : PySem.W.Frag) : TS := tSeq (tIfS (tTest (tOp rEq (tVar 1) (tC (.int 0)))) (tRet (tVar 0)) tNext)
  (tSeq (tAsg (tOp (rI (fun _ j => 0 < j) fun i j => .int (i % j)) (tCB (fun xs H Q => (∃ i, xs = [V.int i] ∧ Q (.int i) H) ∨ ∃ k, xs = [V.bl k] ∧ Q (.int (if k then 1 else 0)) H) (tCons (tVar 0) tNil)) (tVar 1)) (gName 3)) (tSeq (tAsg (tVar 1) (gName 0)) (tAsg (tVar 3) (gName 1))))
theorem rr_rngR {C : Addr} {g : TG} {t : TS} {es e1 : Es} {d : D} {n : Int} {ta : TA} (h : EvA C ta es [.int n] e1) (h0 : 0 ≤ n) (h1 : n < 2 ^ 62) (l : ∃ e, LoopR C g t ((List.range n.toNat).map fun (i : Nat) => D.int (i : Int)) e1 (.rt d e)) : RunR C (tFor (iRng1 ta) g t) es d := l.imp fun e l => run_range h h0 h1 l
section
variable {P : Program} {w : World} {K : PySem.W.Frag} {mg : Str → Option Value} {base : Heap} {C : Addr}
theorem ok_lpts (d : Df K mg "_law_points" s_law_points) (T : Txt K mg C) : CallOk P w K mg base "_law_points" 1 ["_law_here"] (spP C r_lpts) := by
  refine .mk' d (fun f fd F => fn_pure F sc_law_points (fun ds d h => by cases h <;> rfl) fun cdv A outer s0 H E ds d hr h => ?_) (fun _ _ _ _ _ _ us hl => match us, hl with | [_], _ => rfl)
  cases h with
  | mk s =>
    obtain ⟨i, j⟩ := s
    refine ⟨_, (pss_cons (ps_asg (pv 0) (pg_tup rfl (pgs_cons (pg_name (i := 1) sc_law_points.nd rfl (Or.inl rfl)) (pgs_cons (pg_name (i := 2) sc_law_points.nd rfl (Or.inl rfl)) pgs_nil))))
      (pss_cons (ps_if (pt_cmpR op_eq (pe_op op_mod (pe_callTy call_int1 rfl T.b_int (by decide +kernel) (pa_cons (pe_op op_add (pv 1) (pv 2)) pa_nil)) pe_int) pe_int (nomark _)) (pss_one (ps_ret (pe_lst (pa_cons (pe_tup (pa_cons (pe_op op_add (pv 1) pe_int) (pa_cons (pv 2) pa_nil))) (pa_cons (pe_tup (pa_cons (pv 1) (pa_cons (pe_op op_add (pv 2) pe_int) pa_nil))) pa_nil))))) pss_nil)
      (pss_one (ps_ret (pe_lst (pa_cons (pe_tup (pa_cons (pv 1) (pa_cons (pv 2) pa_nil))) (pa_cons (pe_tup (pa_cons (pe_op op_add (pv 1) pe_int) (pa_cons (pe_op op_add (pv 2) pe_int) pa_nil))) pa_nil))))))), ?_⟩
    walk_at "set"
    by_cases c : (i + j) % 2 = 0
    · refine rr_take (et_test (ev_eqI (ev_mod (ev_int1 (ev_add (ev_var rfl) (ev_var rfl))) ev_cI (by decide)) ev_cI)) (decide_eq_true c) ?_
      have e : pts (i, j) = ((i + 1, j), (i, j + 1)) := if_pos c
      unfold ptsD
      rw [e]
      walk_at "ret"
    · refine rr_skip (et_test (ev_eqI (ev_mod (ev_int1 (ev_add (ev_var rfl) (ev_var rfl))) ev_cI (by decide)) ev_cI)) (decide_eq_false c) ?_
      have e : pts (i, j) = ((i, j), (i + 1, j + 1)) := if_neg c
      unfold ptsD
      rw [e]
      walk_at "ret"
theorem ok_lunf (d : Df K mg "_law_unfolded" s_law_unfolded) : CallOk P w K mg base "_law_unfolded" 1 ["_law_here", "_law_goal"] (spP C r_lunf) := by
  refine .mk' d (fun f fd F => fn_pure F sc_law_unfolded (fun ds d h => by cases h <;> rfl) fun cdv A outer s0 H E ds d hr h => ?_) (fun _ _ _ _ _ _ us hl => match us, hl with | [_, _], _ => rfl)
  cases h with
  | mk s p =>
    obtain ⟨i, j⟩ := s
    obtain ⟨x, y⟩ := p
    refine ⟨_, (pss_cons (ps_asg (pv 1) (pg_tup rfl (pgs_cons (pg_name (i := 2) sc_law_unfolded.nd rfl (Or.inl rfl)) (pgs_cons (pg_name (i := 3) sc_law_unfolded.nd rfl (Or.inl rfl)) pgs_nil))))
      (pss_cons (ps_if (pt_cmpR op_eq (pv 2) (pe_ix ix_seq (pv 0) pe_int (fun _ _ => rfl)) (nomark _)) (pss_one (ps_set (i := 2) sc_law_unfolded.nd rfl (Or.inl rfl) (pe_un un_neg (pv 2)))) pss_nil)
      (pss_cons (ps_if (pt_cmpR op_eq (pv 3) (pe_ix ix_seq (pv 0) pe_int (fun _ _ => rfl)) (nomark _)) (pss_one (ps_set (i := 3) sc_law_unfolded.nd rfl (Or.inl rfl) (pe_un un_neg (pv 3)))) pss_nil)
      (pss_one (ps_ret (pe_tup (pa_cons (pv 2) (pa_cons (pv 3) pa_nil)))))))), ?_⟩
    walk_at "set"
    unfold unf dP
    by_cases c1 : x = i
    · refine rr_seq (run_ifT (by walk_at "ev") (decide_eq_true c1) (by walk_at "asg")) ?_
      by_cases c2 : y = j
      · refine rr_seq (run_ifT (by walk_at "ev") (decide_eq_true c2) (by walk_at "asg")) ?_
        rw [if_pos c1, if_pos c2]
        walk_at "ret"
      · refine rr_skip (by walk_at "ev") (decide_eq_false c2) ?_
        rw [if_pos c1, if_neg c2]
        walk_at "ret"
    · refine rr_skip (by walk_at "ev") (decide_eq_false c1) ?_
      by_cases c2 : y = j
      · refine rr_seq (run_ifT (by walk_at "ev") (decide_eq_true c2) (by walk_at "asg")) ?_
        rw [if_neg c1, if_pos c2]
        walk_at "ret"
      · refine rr_skip (by walk_at "ev") (decide_eq_false c2) ?_
        rw [if_neg c1, if_neg c2]
        walk_at "ret"
theorem ok_div (d : Df K mg "_law_divisor" s_law_divisor) (T : Txt K mg C) : CallOk P w K mg base "_law_divisor" 1 ["_law_a", "_law_b"] (spP C r_div) := by
  refine .mk' d (fun f fd F => fn_pure F sc_law_divisor (fun ds d h => by cases h <;> rfl) fun cdv A outer s0 H E ds d hr h => ?_) (fun _ _ _ _ _ _ us hl => match us, hl with | [_, _], _ => rfl)
  cases h with
  | mk a b g ha hb kb G =>
    refine ⟨_, (pss_cons (ps_for PassesOwn.never rfl (pi_range1 rfl T.b_range (pa_cons pe_int pa_nil)) (pg_name (i := 2) sc_law_divisor.nd rfl (Or.inl rfl))
      (pss_cons (ps_if (pt_cmpR op_eq (pv 1) pe_int (nomark _)) (pss_one (ps_ret (pv 0))) pss_nil)
      (pss_cons (ps_set (i := 3) sc_law_divisor.nd rfl (Or.inl rfl) (pe_op op_mod (pe_callTy call_int1 rfl T.b_int (by decide +kernel) (pa_cons (pv 0) pa_nil)) (pv 1)))
      (pss_cons (ps_set (i := 0) sc_law_divisor.nd rfl (Or.inl rfl) (pv 1))
      (pss_one (ps_set (i := 1) sc_law_divisor.nd rfl (Or.inl rfl) (pv 3)))))))
      (pss_one (ps_ret (pv 0)))), ?_⟩
    refine rr_seqR (rr_rngR (n := 300) (ea_cons ev_cI ea_nil) (by decide) (by decide) ?_)
    refine (?_ : ∀ (m : Nat) (a b : Int) (l : List Nat) (x y : Sl), 0 < a → 0 ≤ b → b < 2 ^ m → IsG a b g → 2 * m + 1 ≤ l.length → ∃ e, LoopR C _ _ (l.map fun (i : Nat) => D.int (i : Int)) [.p (.int a), .p (.int b), x, y] (.rt (.int g) e)) 120 a b (List.range 300) .no .no ha (by omega) kb G (by rw [List.length_range]; decide)
    clear ha hb kb G
    have stop : ∀ (a : Int) (k : Nat) (l : List Nat) (x y : Sl), 0 < a → IsG a 0 g → ∃ e, LoopR C (gName 2) (dvB (cxOf CX0 P w K mg base N_law_divisor "_law_divisor" (defScope s_law_divisor) f cdv A outer s0 H E).nox.K) ((k :: l).map fun (i : Nat) => D.int (i : Int)) [.p (.int a), .p (.int 0), x, y] (.rt (.int g) e) := by
      intro a k l x y ha G
      have := G.end_ ha
      subst this
      exact ⟨_, _, eg_name, .rt (.int a) _, run_seqR (run_ifT (et_is (et_test (ev_eqI (ev_var rfl) ev_cI)) (by rfl : _ = true)) rfl (run_ret (ev_var rfl))), rfl⟩
    have turn : ∀ (a b : Int) (k : Nat) (l : List Nat) (x y : Sl), 0 < b → (∃ e, LoopR C (gName 2) (dvB (cxOf CX0 P w K mg base N_law_divisor "_law_divisor" (defScope s_law_divisor) f cdv A outer s0 H E).nox.K) (l.map fun (i : Nat) => D.int (i : Int)) [.p (.int b), .p (.int (a % b)), .p (.int (k : Int)), .p (.int (a % b))] (.rt (.int g) e)) →
        ∃ e, LoopR C (gName 2) (dvB (cxOf CX0 P w K mg base N_law_divisor "_law_divisor" (defScope s_law_divisor) f cdv A outer s0 H E).nox.K) ((k :: l).map fun (i : Nat) => D.int (i : Int)) [.p (.int a), .p (.int b), x, y] (.rt (.int g) e) := by
      rintro a b k l x y hb ⟨e, h⟩
      refine ⟨e, _, eg_name, .nx _, ?_, h⟩
      unfold dvB
      refine run_seq (run_ifF (et_test (ev_eqI (ev_var rfl) ev_cI)) (decide_eq_false (by omega)) run_next) ?_
      refine run_seq (run_asg (ev_mod (ev_int1 (ev_var rfl)) (ev_var rfl) hb) eg_name) ?_
      refine run_seq (run_asg (ev_var rfl) eg_name) ?_
      exact run_eq (run_asg (ev_var rfl) eg_name) rfl
    intro m
    induction m with
    | zero =>
      intro a b l x y ha hb kb G hl
      have : b = 0 := by omega
      subst this
      cases l with
      | nil => simp at hl
      | cons k l => exact stop a k l x y ha G
    | succ m ih =>
      intro a b l x y ha hb kb G hl
      match l, hl with
      | k :: l, hl =>
        by_cases c : b = 0
        · subst c; exact stop a k l x y ha G
        · have hb : 0 < b := by omega
          have r0 := Int.emod_nonneg a (b := b) (by omega)
          have r1 := Int.emod_lt_of_pos a hb
          refine turn a b k l x y hb ?_
          match l, hl with
          | k2 :: l, hl =>
            by_cases c2 : a % b = 0
            · rw [c2]
              have G2 := G.step
              rw [c2] at G2
              exact stop b k2 l _ _ hb G2
            · have hr : 0 < a % b := by omega
              refine turn b (a % b) k2 l _ _ hr ?_
              have hh := half_mod hr r1
              have hn := Int.emod_nonneg b (b := a % b) (by omega)
              refine ih (a % b) (b % (a % b)) l _ _ hr hn ?_ G.step.step (by simp only [List.length_cons] at hl; omega)
              have h2 : (2 : Int) ^ (m + 1) = 2 ^ m * 2 := Int.pow_succ 2 m
              omega
end
end Sw
end
section
open PySem PySem.Spec PyProof.Rows L2 Sw Sd
local macro_rules | `(tactic| walk_at "ev") => `(tactic| first
  | with_reducible exact ev_cI
  | with_reducible exact ev_cS
  | with_reducible exact ev_cB
  | with_reducible exact ev_cN
  | with_reducible exact ea_nil
  | ((with_reducible apply ev_var); rfl)
  | ((with_reducible apply ea_cons); (· walk_at "ev"); (· walk_at "ev"))
  | ((with_reducible apply ev_add); (· walk_at "ev"); (· walk_at "ev"))
  | ((with_reducible apply ev_sub); (· walk_at "ev"); (· walk_at "ev"))
  | ((with_reducible apply ev_min2); (· walk_at "ev"); (· walk_at "ev"))
  | ((with_reducible apply ev_lt); (· walk_at "ev"); (· walk_at "ev"))
  | ((with_reducible apply ev_le); (· walk_at "ev"); (· walk_at "ev"))
  | ((with_reducible apply ev_gt); (· walk_at "ev"); (· walk_at "ev"))
  | ((with_reducible apply ev_ge); (· walk_at "ev"); (· walk_at "ev"))
  | ((with_reducible apply ev_eqI); (· walk_at "ev"); (· walk_at "ev"))
  | ((with_reducible apply ev_eqS); (· walk_at "ev"); (· walk_at "ev"))
  | ((with_reducible apply ev_eqB); (· walk_at "ev"); (· walk_at "ev"))
  | ((with_reducible apply ev_neI); (· walk_at "ev"); (· walk_at "ev"))
  | ((with_reducible apply ev_neg); (· walk_at "ev"))
  | ((with_reducible apply ev_isN); (· walk_at "ev"))
  | ((with_reducible apply ev_notN); (· walk_at "ev"))
  | ((with_reducible apply et_test); (· walk_at "ev"))
  | ((with_reducible apply et_B); (· walk_at "ev"))
  | ((with_reducible apply et_not); (· walk_at "ev"))
  | ((with_reducible apply ev_tup); (· walk_at "ev"); (· exact Nat.le_of_ble_eq_true rfl))
  | ((with_reducible apply ev_lst); (· walk_at "ev"); (· exact Nat.le_of_ble_eq_true rfl))
  | ((with_reducible apply ev_ix); (· walk_at "ev"); (· walk_at "ev"); (· rfl); (· rfl))
  | ((with_reducible apply ev_mulS); (· walk_at "ev"); (· walk_at "ev"); (· first | exact .inl ⟨by decide, by decide⟩ | exact .inr ⟨by decide, by decide⟩))
  | ((with_reducible apply ev_mulW); (· walk_at "ev"); (· walk_at "ev"); (· walk_at "sd"))
  | ((with_reducible apply ev_mod); (· walk_at "ev"); (· walk_at "ev"); (· walk_at "sd"))
  | ((with_reducible apply ev_div); (· walk_at "ev"); (· walk_at "ev"); (· walk_at "sd"))
  | ((with_reducible apply ev_prop); (· walk_at "ev"); (· walk_at "pr"))
  | ((with_reducible apply ev_chain); (· walk_at "ev"); (· walk_at "ev"); (· walk_at "ev"); (· exact r2_cmp); (· exact r2_cmp))
  | ((with_reducible apply ev_call); (· walk_at "ev"); (· walk_at "rel")))
local macro_rules | `(tactic| walk_at "sd") => `(tactic| first | assumption | decide | omega)
local macro_rules | `(tactic| walk_at "ret") => `(tactic| (apply rr_ret; (· walk_at "ev"); (try rfl)))
local macro_rules | `(tactic| walk_at "asg") => `(tactic| (apply run_asg; (· walk_at "ev"); (· walk_at "tgt")))
local macro_rules | `(tactic| walk_at "tgt") => `(tactic| first
  | with_reducible exact eg_name
  | ((apply eg_tup); (· rfl); (· walk_at "tgt"))
  | with_reducible exact egs_nil
  | ((with_reducible apply egs_cons); (· walk_at "tgt"); (· walk_at "tgt")))
local macro_rules | `(tactic| walk_at "set") => `(tactic| (apply rr_seq; (· walk_at "asg")))
local macro_rules | `(tactic| walk_at "par") => `(tactic| (apply rr_seq; (· apply run_par; walk_at "ev")))
local macro_rules | `(tactic| walk_at "asgE") => `(tactic| (apply run_eq; (· walk_at "asg"); (· rfl)))
local macro_rules | `(tactic| walk_at "parE") => `(tactic| (apply run_eq; (· apply run_par; walk_at "ev"); (· rfl)))
local macro_rules | `(tactic| walk_at "evr") => `(tactic| first | (apply et_is; (· walk_at "ev"); (· rfl)) | (apply ev_is; (· walk_at "ev"); (· rfl)))
local macro_rules | `(tactic| walk_at "drop") => `(tactic| (apply rr_seq; (· apply run_drop; walk_at "ev")))

namespace Sw
open Sd
local macro_rules | `(tactic| walk_at "rel") => `(tactic| first
  | exact r_go.mk _ _ _ _ _ _ _ (by assumption) (by assumption) (by assumption) (by assumption) (by assumption)
  | exact r_tog.mk _ _ _ _ _ _ (by assumption) (by assumption) (by assumption) (by assumption)
  | exact r_cnt.mk _ _ _ _ (by assumption) (by assumption)
  | exact r_loc.mk _ _ _ _ (by assumption) (by assumption)
  | exact r_csq.mk _ _ _ _ (by assumption)
  | exact r_cway.mk _ _ _ _ _ (by assumption) (by assumption)
  | exact r_frm.mk _ _ _ (by assumption)
  | exact r_legs.mk _ (by assumption) _ _ _ (by assumption)
  | exact r_str.mk _ _ _ _ _ _ (by assumption) (by assumption) (by assumption) (by assumption)
  | exact r_flen.mk _ _ _ _ _ (by assumption) (by assumption) (by assumption)
  | exact r_steps.mk3 _ (by assumption) _ _ _ _ _
  | exact r_steps.mk2 _ (by assumption) _ _ _ _
  | exact r_tom.mk _ (by assumption) _ _
  | exact r_from.mk _ (by assumption) _ _ _ _ (by assumption)
  | exact r_behind.mk _ _ _ _
  | exact r_gcd.mk _ _ (by assumption) (by assumption) (by assumption) (by assumption)
  | exact r_cls.mk _ _ _ (by assumption)
  | exact r_fsq.mk _ _ (by assumption)
  | exact r_fpt.mk _ _ (by assumption)
  | exact r_pts.mk _ _
  | exact r_unf.mk _ _ _ _)
local macro_rules | `(tactic| walk_at "pr") => `(tactic| first
  | exact r_w.mk _ _ _
  | exact r_h.mk _ _ _
  | exact r_mirs.mk _ _ _ (by assumption))

theorem sel_at {a b : Int} (c : Bool) : atI [D.int a, D.int b] (if c then 1 else 0) = some (.int (if c = true then b else a)) := by cases c <;> rfl
theorem sel_sq (size far : Int) : (if decide (2 * size ≤ (far - 1) % (4 * size)) = true then 4 * size - 1 - (far - 1) % (4 * size) else (far - 1) % (4 * size)) = foldSq size far := by
  unfold foldSq pmin
  generalize (far - 1) % (4 * size) = b
  by_cases c : 2 * size ≤ b
  · rw [if_pos (decide_eq_true c), if_pos (by omega)]
  · rw [if_neg (by rw [decide_eq_false c]; decide), if_neg (by omega)]
theorem sel_pt (size far : Int) : (if decide (2 * size < far % (4 * size)) = true then 4 * size - far % (4 * size) else far % (4 * size)) = foldPt size far := by
  unfold foldPt pmin
  generalize far % (4 * size) = b
  by_cases c : 2 * size < b
  · rw [if_pos (decide_eq_true c), if_pos (by omega)]
  · rw [if_neg (by rw [decide_eq_false c]; decide), if_neg (by omega)]
/-- plain data of so much depth -/
def Sm : Nat → D → Prop
  | _ + 1, .non => True
  | _ + 1, .bl _ => True
  | _ + 1, .int _ => True
  | k + 1, .tup ds => ds.length ≤ 10 ∧ ∀ d ∈ ds, Sm k d
  | k + 1, .lst ds => ds.length ≤ 10 ∧ ∀ d ∈ ds, Sm k d
  | _, _ => False
inductive r_same (k : Nat) : List D → D → Prop where
  | mk (d : D) (h : Sm k d) : r_same k [d, d] (.bl true)
section
variable {P : Program} {w : World} {K : PySem.W.Frag} {mg : Str → Option Value} {base : Heap} {C : Addr}
theorem ok_stp (d : Df K mg "_law_bare_step" s_law_bare_step) (T : Txt K mg C) (c_law_unfolded : CallOk P w K mg base "_law_unfolded" 1 ["_law_here", "_law_goal"] (spP C r_lunf)) :
    CallOk P w K mg base "_law_bare_step" 2 ["_law_wide", "_law_high", "_law_here", "_law_goal", "_law_steps"] (spP C r_stp) := by
  refine .mk' d (fun f fd F => fn_pure F sc_law_bare_step (fun ds d h => by cases h <;> rfl) fun cdv A outer s0 H E ds d hr h => ?_) (fun _ _ _ _ _ _ us hl => match us, hl with | [_, _, _, _, _], _ => rfl)
  cases h with
  | mk w0 h0 s p n hw hh =>
    refine ⟨_, (pss_cons (ps_set (i := 5) sc_law_bare_step.nd rfl (Or.inl rfl) (pe_lst pa_nil))
      (pss_cons (ps_set (i := 6) sc_law_bare_step.nd rfl (Or.inl rfl) (pe_lst pa_nil))
      (pss_cons (ps_set (i := 7) sc_law_bare_step.nd rfl (Or.inl rfl) (pe_callC c_law_unfolded hr (by decide) rfl (pa_cons (pv 2) (pa_cons (pv 3) pa_nil))))
      (pss_cons (ps_for PassesOwn.never rfl (pi_list (pe_lst (pa_cons (pe_tup (pa_cons (pv 0) (pa_cons (pe_op op_add (pe_ix ix_seq (pv 7) pe_int (fun _ _ => rfl)) (pv 4)) pa_nil))) (pa_cons (pe_tup (pa_cons (pv 1) (pa_cons (pe_op op_add (pe_ix ix_seq (pv 7) pe_int (fun _ _ => rfl)) (pv 4)) pa_nil))) pa_nil)))) (pg_tup rfl (pgs_cons (pg_name (i := 8) sc_law_bare_step.nd rfl (Or.inl rfl)) (pgs_cons (pg_name (i := 9) sc_law_bare_step.nd rfl (Or.inl rfl)) pgs_nil)))
      (pss_cons (ps_set (i := 10) sc_law_bare_step.nd rfl (Or.inl rfl) (pe_op op_mod (pe_callTy call_int1 rfl T.b_int (by decide +kernel) (pa_cons (pe_op op_sub (pv 9) pe_int) pa_nil)) (pe_op op_mul pe_int (pv 8))))
      (pss_cons (ps_set (i := 11) sc_law_bare_step.nd rfl (Or.inl rfl) (pe_op op_mod (pe_callTy call_int1 rfl T.b_int (by decide +kernel) (pa_cons (pv 9) pa_nil)) (pe_op op_mul pe_int (pv 8))))
      (pss_cons (ps_expr (pe_bm PySem.F.plainAttrs_list PySem.F.slot_list_append PySem.F.type_list_append mt_append (pv 5) (pa_cons (pe_ix ix_seq (pe_lst (pa_cons (pv 10) (pa_cons (pe_op op_sub (pe_op op_sub (pe_op op_mul pe_int (pv 8)) pe_int) (pv 10)) pa_nil))) (pe_callTy call_int1 rfl T.b_int (by decide +kernel) (pa_cons (pe_cmpR op_ge (pv 10) (pe_op op_mul pe_int (pv 8)) (nomark _)) pa_nil)) (fun _ _ => rfl)) pa_nil)))
      (pss_one (ps_expr (pe_bm PySem.F.plainAttrs_list PySem.F.slot_list_append PySem.F.type_list_append mt_append (pv 6) (pa_cons (pe_ix ix_seq (pe_lst (pa_cons (pv 11) (pa_cons (pe_op op_sub (pe_op op_mul pe_int (pv 8)) (pv 11)) pa_nil))) (pe_callTy call_int1 rfl T.b_int (by decide +kernel) (pa_cons (pe_cmpR op_gt (pv 11) (pe_op op_mul pe_int (pv 8)) (nomark _)) pa_nil)) (fun _ _ => rfl)) pa_nil))))))))
      (pss_one (ps_ret (pe_tup (pa_cons (pe_tup (pa_cons (pe_ix ix_seq (pv 5) pe_int (fun _ _ => rfl)) (pa_cons (pe_ix ix_seq (pv 5) pe_int (fun _ _ => rfl)) pa_nil))) (pa_cons (pe_tup (pa_cons (pe_ix ix_seq (pv 6) pe_int (fun _ _ => rfl)) (pa_cons (pe_ix ix_seq (pv 6) pe_int (fun _ _ => rfl)) pa_nil))) pa_nil))))))))), ?_⟩
    refine rr_seq run_newL ?_
    refine rr_seq run_newL ?_
    refine rr_seq (run_asg (ev_call (ds := [dP s, dP p]) (by walk_at "ev") (r_lunf.mk s p)) eg_name) ?_
    generalize unf s p = q
    refine rr_for (xs := [.tup [.int w0, .int (q.1 + n)], .tup [.int h0, .int (q.2 + n)]]) (Pst := fun e => ∃ a b c d, e = [.p (.int w0), .p (.int h0), .p (dP s), .p (dP p), .p (.int n), .oL [.int (foldSq w0 (q.1 + n)), .int (foldSq h0 (q.2 + n))], .oL [.int (foldPt w0 (q.1 + n)), .int (foldPt h0 (q.2 + n))], .p (dP q), a, b, c, d]) (by walk_at "ev") ?loop ?after
    case after =>
      rintro e ⟨a, b, c, d, rfl⟩
      refine rr_frL (i := 5) (ds := [.int (foldSq w0 (q.1 + n)), .int (foldSq h0 (q.2 + n))]) rfl ?_
      refine rr_frL (i := 6) (ds := [.int (foldPt w0 (q.1 + n)), .int (foldPt h0 (q.2 + n))]) rfl ?_
      walk_at "ret"
    case loop =>
      have m0 : 0 < 4 * w0 := by omega
      have m1 : 0 < 4 * h0 := by omega
      refine ⟨_, ⟨_, by walk_at "tgt", .nx [.p (.int w0), .p (.int h0), .p (dP s), .p (dP p), .p (.int n), .oL [.int (foldSq w0 (q.1 + n))], .oL [.int (foldPt w0 (q.1 + n))], .p (dP q), .p (.int w0), .p (.int (q.1 + n)), .p (.int ((q.1 + n - 1) % (4 * w0))), .p (.int ((q.1 + n) % (4 * w0)))], ?_,
        ⟨_, by walk_at "tgt", .nx [.p (.int w0), .p (.int h0), .p (dP s), .p (dP p), .p (.int n), .oL [.int (foldSq w0 (q.1 + n)), .int (foldSq h0 (q.2 + n))], .oL [.int (foldPt w0 (q.1 + n)), .int (foldPt h0 (q.2 + n))], .p (dP q), .p (.int h0), .p (.int (q.2 + n)), .p (.int ((q.2 + n - 1) % (4 * h0))), .p (.int ((q.2 + n) % (4 * h0)))], ?_, rfl⟩⟩, _, _, _, _, rfl⟩
      · refine run_seq (run_asg (ev_mod (ev_int1 (ev_sub (ev_var rfl) ev_cI)) (ev_mulS ev_cI (ev_var rfl) (.inl ⟨by decide, by decide⟩)) m0) eg_name) ?_
        refine run_seq (run_asg (ev_mod (ev_int1 (ev_var rfl)) (ev_mulS ev_cI (ev_var rfl) (.inl ⟨by decide, by decide⟩)) m0) eg_name) ?_
        refine run_seq (run_append (d := .int (foldSq w0 (q.1 + n))) (ev_is (ev_ix (by walk_at "ev") (ev_intB (by walk_at "ev")) rfl (sel_at _)) (by rw [← sel_sq])) rfl (small_line (Nat.le_of_ble_eq_true rfl))) ?_
        exact run_eq (run_append (d := .int (foldPt w0 (q.1 + n))) (ev_is (ev_ix (by walk_at "ev") (ev_intB (by walk_at "ev")) rfl (sel_at _)) (by rw [← sel_pt])) rfl (small_line (Nat.le_of_ble_eq_true rfl))) rfl
      · refine run_seq (run_asg (ev_mod (ev_int1 (ev_sub (ev_var rfl) ev_cI)) (ev_mulS ev_cI (ev_var rfl) (.inl ⟨by decide, by decide⟩)) m1) eg_name) ?_
        refine run_seq (run_asg (ev_mod (ev_int1 (ev_var rfl)) (ev_mulS ev_cI (ev_var rfl) (.inl ⟨by decide, by decide⟩)) m1) eg_name) ?_
        refine run_seq (run_append (d := .int (foldSq h0 (q.2 + n))) (ev_is (ev_ix (by walk_at "ev") (ev_intB (by walk_at "ev")) rfl (sel_at _)) (by rw [← sel_sq])) rfl (small_line (Nat.le_of_ble_eq_true rfl))) ?_
        exact run_eq (run_append (d := .int (foldPt h0 (q.2 + n))) (ev_is (ev_ix (by walk_at "ev") (ev_intB (by walk_at "ev")) rfl (sel_at _)) (by rw [← sel_pt])) rfl (small_line (Nat.le_of_ble_eq_true rfl))) rfl
theorem ok_msq (d : Df K mg "_law_moved_square" s_law_moved_square) (T : Txt K mg C) (c_law_moved : CallOk P w K mg base "_law_moved" 1 ["_law_way", "_law_wide", "_law_high", "_law_place"] (spP C r_mvd)) :
    CallOk P w K mg base "_law_moved_square" 2 ["_law_way", "_law_wide", "_law_high", "_law_here"] (spP C r_msq) := by
  refine .mk' d (fun f fd F => fn_pure F sc_law_moved_square (fun ds d h => by cases h <;> rfl) fun cdv A outer s0 H E ds d hr h => ?_) (fun _ _ _ _ _ _ us hl => match us, hl with | [_, _, _, _], _ => rfl)
  cases h with
  | mk way t w0 h0 s ht =>
    refine ⟨_, (pss_cons (ps_set (i := 4) sc_law_moved_square.nd rfl (Or.inl rfl) (pe_callC c_law_moved hr (by decide) rfl (pa_cons (pv 0) (pa_cons (pv 1) (pa_cons (pv 2) (pa_cons (pv 3) pa_nil))))))
      (pss_cons (ps_set (i := 5) sc_law_moved_square.nd rfl (Or.inl rfl) (pe_callC c_law_moved hr (by decide) rfl (pa_cons (pv 0) (pa_cons (pv 1) (pa_cons (pv 2) (pa_cons (pe_tup (pa_cons (pe_op op_add (pe_ix ix_seq (pv 3) pe_int (fun _ _ => rfl)) pe_int) (pa_cons (pe_op op_add (pe_ix ix_seq (pv 3) pe_int (fun _ _ => rfl)) pe_int) pa_nil))) pa_nil))))))
      (pss_one (ps_ret (pe_tup (pa_cons (pe_callB (call_min2 rfl) rfl T.b_min (by decide +kernel) (pa_cons (pe_ix ix_seq (pv 4) pe_int (fun _ _ => rfl)) (pa_cons (pe_ix ix_seq (pv 5) pe_int (fun _ _ => rfl)) pa_nil))) (pa_cons (pe_callB (call_min2 rfl) rfl T.b_min (by decide +kernel) (pa_cons (pe_ix ix_seq (pv 4) pe_int (fun _ _ => rfl)) (pa_cons (pe_ix ix_seq (pv 5) pe_int (fun _ _ => rfl)) pa_nil))) pa_nil))))))), ?_⟩
    refine rr_seq (run_asg (ev_call (ds := [.str way, .int w0, .int h0, dP s]) (by walk_at "ev") (r_mvd.mk way t w0 h0 s ht)) eg_name) ?_
    refine rr_seq (run_asg (ev_call (ds := [.str way, .int w0, .int h0, .tup [.int (s.1 + 1), .int (s.2 + 1)]]) (by walk_at "ev") (r_mvd.mk way t w0 h0 (s.1 + 1, s.2 + 1) ht)) eg_name) ?_
    refine rr_eq (by walk_at "ret") ?_
    obtain ⟨x, y⟩ := s
    have e : (min2 (mpt t w0 h0 (x, y)).1 (mpt t w0 h0 (x + 1, y + 1)).1, min2 (mpt t w0 h0 (x, y)).2 (mpt t w0 h0 (x + 1, y + 1)).2) = msq t w0 h0 (x, y) := by
      obtain ⟨fx, fy, ex⟩ := t
      cases fx <;> cases fy <;> cases ex <;> simp [mpt, msq, min2] <;> omega
    rw [← e]
    rfl
end
end Sw
end
section
open PySem PySem.Spec PyProof.Rows L2 Sw Sd
local macro_rules | `(tactic| walk_at "ev") => `(tactic| first
  | with_reducible exact ev_cI
  | with_reducible exact ev_cS
  | with_reducible exact ev_cB
  | with_reducible exact ev_cN
  | with_reducible exact ea_nil
  | ((with_reducible apply ev_var); rfl)
  | ((with_reducible apply ea_cons); (· walk_at "ev"); (· walk_at "ev"))
  | ((with_reducible apply ev_add); (· walk_at "ev"); (· walk_at "ev"))
  | ((with_reducible apply ev_sub); (· walk_at "ev"); (· walk_at "ev"))
  | ((with_reducible apply ev_min2); (· walk_at "ev"); (· walk_at "ev"))
  | ((with_reducible apply ev_lt); (· walk_at "ev"); (· walk_at "ev"))
  | ((with_reducible apply ev_le); (· walk_at "ev"); (· walk_at "ev"))
  | ((with_reducible apply ev_gt); (· walk_at "ev"); (· walk_at "ev"))
  | ((with_reducible apply ev_ge); (· walk_at "ev"); (· walk_at "ev"))
  | ((with_reducible apply ev_eqI); (· walk_at "ev"); (· walk_at "ev"))
  | ((with_reducible apply ev_eqS); (· walk_at "ev"); (· walk_at "ev"))
  | ((with_reducible apply ev_eqB); (· walk_at "ev"); (· walk_at "ev"))
  | ((with_reducible apply ev_neI); (· walk_at "ev"); (· walk_at "ev"))
  | ((with_reducible apply ev_neg); (· walk_at "ev"))
  | ((with_reducible apply ev_isN); (· walk_at "ev"))
  | ((with_reducible apply ev_notN); (· walk_at "ev"))
  | ((with_reducible apply et_test); (· walk_at "ev"))
  | ((with_reducible apply et_B); (· walk_at "ev"))
  | ((with_reducible apply et_not); (· walk_at "ev"))
  | ((with_reducible apply ev_tup); (· walk_at "ev"); (· exact Nat.le_of_ble_eq_true rfl))
  | ((with_reducible apply ev_lst); (· walk_at "ev"); (· exact Nat.le_of_ble_eq_true rfl))
  | ((with_reducible apply ev_ix); (· walk_at "ev"); (· walk_at "ev"); (· rfl); (· rfl))
  | ((with_reducible apply ev_mulS); (· walk_at "ev"); (· walk_at "ev"); (· first | exact .inl ⟨by decide, by decide⟩ | exact .inr ⟨by decide, by decide⟩))
  | ((with_reducible apply ev_mulW); (· walk_at "ev"); (· walk_at "ev"); (· walk_at "sd"))
  | ((with_reducible apply ev_mod); (· walk_at "ev"); (· walk_at "ev"); (· walk_at "sd"))
  | ((with_reducible apply ev_div); (· walk_at "ev"); (· walk_at "ev"); (· walk_at "sd"))
  | ((with_reducible apply ev_prop); (· walk_at "ev"); (· walk_at "pr"))
  | ((with_reducible apply ev_chain); (· walk_at "ev"); (· walk_at "ev"); (· walk_at "ev"); (· exact r2_cmp); (· exact r2_cmp))
  | ((with_reducible apply ev_call); (· walk_at "ev"); (· walk_at "rel")))
local macro_rules | `(tactic| walk_at "sd") => `(tactic| first | assumption | decide | omega)
local macro_rules | `(tactic| walk_at "ret") => `(tactic| (apply rr_ret; (· walk_at "ev"); (try rfl)))
local macro_rules | `(tactic| walk_at "asg") => `(tactic| (apply run_asg; (· walk_at "ev"); (· walk_at "tgt")))
local macro_rules | `(tactic| walk_at "tgt") => `(tactic| first
  | with_reducible exact eg_name
  | ((apply eg_tup); (· rfl); (· walk_at "tgt"))
  | with_reducible exact egs_nil
  | ((with_reducible apply egs_cons); (· walk_at "tgt"); (· walk_at "tgt")))
local macro_rules | `(tactic| walk_at "set") => `(tactic| (apply rr_seq; (· walk_at "asg")))
local macro_rules | `(tactic| walk_at "par") => `(tactic| (apply rr_seq; (· apply run_par; walk_at "ev")))
local macro_rules | `(tactic| walk_at "asgE") => `(tactic| (apply run_eq; (· walk_at "asg"); (· rfl)))
local macro_rules | `(tactic| walk_at "parE") => `(tactic| (apply run_eq; (· apply run_par; walk_at "ev"); (· rfl)))
local macro_rules | `(tactic| walk_at "evr") => `(tactic| first | (apply et_is; (· walk_at "ev"); (· rfl)) | (apply ev_is; (· walk_at "ev"); (· rfl)))
local macro_rules | `(tactic| walk_at "drop") => `(tactic| (apply rr_seq; (· apply run_drop; walk_at "ev")))

namespace Sw
open Sd
local macro_rules | `(tactic| walk_at "rel") => `(tactic| first
  | exact r_go.mk _ _ _ _ _ _ _ (by assumption) (by assumption) (by assumption) (by assumption) (by assumption)
  | exact r_tog.mk _ _ _ _ _ _ (by assumption) (by assumption) (by assumption) (by assumption)
  | exact r_cnt.mk _ _ _ _ (by assumption) (by assumption)
  | exact r_loc.mk _ _ _ _ (by assumption) (by assumption)
  | exact r_csq.mk _ _ _ _ (by assumption)
  | exact r_cway.mk _ _ _ _ _ (by assumption) (by assumption)
  | exact r_frm.mk _ _ _ (by assumption)
  | exact r_legs.mk _ (by assumption) _ _ _ (by assumption)
  | exact r_str.mk _ _ _ _ _ _ (by assumption) (by assumption) (by assumption) (by assumption)
  | exact r_flen.mk _ _ _ _ _ (by assumption) (by assumption) (by assumption)
  | exact r_steps.mk3 _ (by assumption) _ _ _ _ _
  | exact r_steps.mk2 _ (by assumption) _ _ _ _
  | exact r_tom.mk _ (by assumption) _ _
  | exact r_from.mk _ (by assumption) _ _ _ _ (by assumption)
  | exact r_behind.mk _ _ _ _
  | exact r_gcd.mk _ _ (by assumption) (by assumption) (by assumption) (by assumption)
  | exact r_cls.mk _ _ _ (by assumption)
  | exact r_fsq.mk _ _ (by assumption)
  | exact r_fpt.mk _ _ (by assumption)
  | exact r_pts.mk _ _
  | exact r_unf.mk _ _ _ _)
local macro_rules | `(tactic| walk_at "pr") => `(tactic| first
  | exact r_w.mk _ _ _
  | exact r_h.mk _ _ _
  | exact r_mirs.mk _ _ _ (by assumption))

section
variable {P : Program} {w : World} {K : PySem.W.Frag} {mg : Str → Option Value} {base : Heap} {C : Addr}
theorem lc_same {KK : PySem.W.Frag} {k : Nat} {x : D} {ds : List D} (hx : x.items = some ds) (hs : ∀ d ∈ ds, Sm k d) : ∀ l : List Nat, (∀ i ∈ l, i < ds.length) →
    LcR C (gName 2) (tCall (spP C (r_same k)) [] E0 (tCons (tOp (rIx KK) (tVar 0) (tVar 2)) (tCons (tOp (rIx KK) (tVar 1) (tVar 2)) tNil))) [2] (l.map fun (i : Nat) => D.int (i : Int)) [.p x, .p x, .no] ((l.map fun _ => true).map D.bl) [.p x, .p x, .no]
  | [], _ => lc_nil
  | i :: l, h => by
    have hi := h i (List.mem_cons_self ..)
    have hat : atI ds (i : Int) = some ds[i] := atI_nat (List.getElem?_eq_getElem hi)
    exact lc_cons1 (by decide) (ev_call (ds := [ds[i], ds[i]]) (ea_cons (ev_ix (ev_var rfl) (ev_var rfl) hx hat) (ea_cons (ev_ix (ev_var rfl) (ev_var rfl) hx hat) ea_nil)) (r_same.mk _ (hs _ (List.getElem_mem hi)))) (no1 rfl) (lc_same hx hs l fun j hj => h j (List.mem_cons_of_mem _ hj))
theorem same_seq {k : Nat} {KK : PySem.W.Frag} {x : D} {ds : List D} (hx : x.items = some ds) (hl : ds.length ≤ 10) (hs : ∀ d ∈ ds, Sm k d) :
    EvM C (tCB (rAll KK) (tCons (tLc (iRng1 (tCons (tCB (fun xs H Q => ∃ p ys, xs = [V.ref p] ∧ (SqL KK H p ys ∨ SqT KK H p ys) ∧ Q (.int ys.length) H) (tCons (tVar 1) tNil)) tNil)) (gName 2) tYes (tCall (spP C (r_same k)) [] E0 (tCons (tOp (rIx KK) (tVar 0) (tVar 2)) (tCons (tOp (rIx KK) (tVar 1) (tVar 2)) tNil))) [2]) tNil)) [.p x, .p x, .no] (.bl true) [.p x, .p x, .no] := by
  have hm : ((List.range ((ds.length : Int)).toNat).map fun _ => true).all id = true := by simp
  refine ev_is (ev_all (bs := (List.range ((ds.length : Int)).toNat).map fun _ => true) (ev_lcR (m := (ds.length : Int)) (e1 := [.p x, .p x, .no]) (e2 := [.p x, .p x, .no]) (ea_cons (ev_len (ev_var rfl) hx) ea_nil) (by omega) (by omega) (no1 rfl) (lc_same hx hs _ fun i hi => ?_) (no1 rfl) ?_)) (by rw [hm])
  · have := List.mem_range.mp hi
    omega
  · rw [List.length_map, List.length_map, List.length_range]
    exact small_line (by omega)
theorem ok_same (d : Df K mg "_law_same" s_law_same) (T : Txt K mg C) : ∀ k : Nat, CallOk P w K mg base "_law_same" (k + 1) ["_law_found", "_law_due"] (spP C (r_same k)) := by
  intro k
  induction k with
  | zero => exact .mk' d (fun f fd F => fn_pure F sc_law_same (fun ds d h => by cases h; rfl) fun cdv A outer s0 H E ds d hr h => by
      cases h with
      | mk d h => exact absurd h (by unfold Sm; exact id)) (fun _ _ _ _ _ _ us hl => match us, hl with | [_, _], _ => rfl)
  | succ k c_law_same =>
    refine .mk' d (fun f fd F => fn_pure F sc_law_same (fun ds d h => by cases h; rfl) fun cdv A outer s0 H E ds d hr h => ?_) (fun _ _ _ _ _ _ us hl => match us, hl with | [_, _], _ => rfl)
    cases h with
    | mk d h =>
      refine ⟨_, (pss_cons (ps_if (pt_cmp (pc_isN (pv 1))) (pss_one (ps_ret (pe_cmp (pc_isN (pv 0))))) pss_nil)
      (pss_cons (ps_if (pt_val (pe_callB call_isi rfl T.b_isinstance (by decide +kernel) (pa_cons (pv 1) (pa_cons (pe_bltn (v := .ty "bool") rfl T.b_bool (by decide +kernel) rfl) pa_nil)))) (pss_one (ps_ret (pe_and (pe_callB call_isi rfl T.b_isinstance (by decide +kernel) (pa_cons (pv 0) (pa_cons (pe_bltn (v := .ty "bool") rfl T.b_bool (by decide +kernel) rfl) pa_nil))) (pe_one (pe_cmpR op_eq (pv 0) (pv 1) (nomark _)))))) pss_nil)
      (pss_cons (ps_if (pt_val (pe_callB call_isi rfl T.b_isinstance (by decide +kernel) (pa_cons (pv 1) (pa_cons (pe_bltn (v := .ty "int") rfl T.b_int (by decide +kernel) rfl) pa_nil)))) (pss_one (ps_ret (pe_and (pe_callB call_isi rfl T.b_isinstance (by decide +kernel) (pa_cons (pv 0) (pa_cons (pe_bltn (v := .ty "int") rfl T.b_int (by decide +kernel) rfl) pa_nil))) (pe_and (pe_not (pe_callB call_isi rfl T.b_isinstance (by decide +kernel) (pa_cons (pv 0) (pa_cons (pe_bltn (v := .ty "bool") rfl T.b_bool (by decide +kernel) rfl) pa_nil)))) (pe_one (pe_cmpR op_eq (pv 0) (pv 1) (nomark _))))))) pss_nil)
      (pss_cons (ps_if (pt_val (pe_callB call_isi rfl T.b_isinstance (by decide +kernel) (pa_cons (pv 1) (pa_cons (pe_bltn (v := .ty "str") rfl T.b_str (by decide +kernel) rfl) pa_nil)))) (pss_one (ps_ret (pe_and (pe_callB call_isi rfl T.b_isinstance (by decide +kernel) (pa_cons (pv 0) (pa_cons (pe_bltn (v := .ty "str") rfl T.b_str (by decide +kernel) rfl) pa_nil))) (pe_one (pe_cmpR op_eq (pv 0) (pv 1) (nomark _)))))) pss_nil)
      (pss_cons (ps_if (PW.pt (pw_and (pt_val (pe_callB call_isi rfl T.b_isinstance (by decide +kernel) (pa_cons (pv 1) (pa_cons (pe_bltn (v := .ty "list") rfl T.b_list (by decide +kernel) rfl) pa_nil)))) (pw_and1 (pt_not (pt_val (pe_callB call_isi rfl T.b_isinstance (by decide +kernel) (pa_cons (pv 0) (pa_cons (pe_bltn (v := .ty "list") rfl T.b_list (by decide +kernel) rfl) pa_nil)))))))) (pss_one (ps_ret pe_bl)) pss_nil)
      (pss_cons (ps_if (PW.pt (pw_and (pt_val (pe_callB call_isi rfl T.b_isinstance (by decide +kernel) (pa_cons (pv 1) (pa_cons (pe_bltn (v := .ty "tuple") rfl T.b_tuple (by decide +kernel) rfl) pa_nil)))) (pw_and1 (pt_not (pt_val (pe_callB call_isi rfl T.b_isinstance (by decide +kernel) (pa_cons (pv 0) (pa_cons (pe_bltn (v := .ty "tuple") rfl T.b_tuple (by decide +kernel) rfl) pa_nil)))))))) (pss_one (ps_ret pe_bl)) pss_nil)
      (pss_cons (ps_if (pt_cmpR op_ne (pe_callB call_len_seq rfl T.b_len PySem.boot_len (pa_cons (pv 0) pa_nil)) (pe_callB call_len_seq rfl T.b_len PySem.boot_len (pa_cons (pv 1) pa_nil)) (nomark _)) (pss_one (ps_ret pe_bl)) pss_nil)
      (pss_one (ps_ret (pe_callB (cr_all rfl) rfl T.b_all (by decide +kernel) (pa_cons (pe_lc (own := [("_law_k", 2)]) (g := (gName 2)) (tt := tYes) rfl sc_law_same.nd (pi_range1 rfl T.b_range (pa_cons (pe_callB call_len_seq rfl T.b_len PySem.boot_len (pa_cons (pv 1) pa_nil)) pa_nil)) (blkOk_by (own := [("_law_k", 2)]) (N := N_law_same) (sc := defScope s_law_same) (by decide +kernel)) (fun _ _ _ _ _ => (pg_name (i := 2) sc_law_same.nd rfl (Or.inl rfl))) (fun _ _ _ _ _ => pts_nil) (fun _ _ _ _ _ => (pe_callC c_law_same hr (Nat.le_refl _) rfl (pa_cons (pe_ix (r := rIx K) ix_seq (pv 0) (pv 2) (fun _ _ => rfl)) (pa_cons (pe_ix (r := rIx K) ix_seq (pv 1) (pv 2) (fun _ _ => rfl)) pa_nil))))) pa_nil))))))))))), ?_⟩
      have notC : kitB "NoneType" "bool" = some false := by decide +kernel
      have b1 : kitB "bool" "bool" = some true := by decide +kernel
      have b2 : kitB "int" "bool" = some false := by decide +kernel
      have b3 : kitB "int" "int" = some true := by decide +kernel
      have l1 : kitB "list" "bool" = some false := by decide +kernel
      have l2 : kitB "list" "int" = some false := by decide +kernel
      have l3 : kitB "list" "str" = some false := by decide +kernel
      have l4 : kitB "list" "list" = some true := by decide +kernel
      have l5 : kitB "list" "tuple" = some false := by decide +kernel
      have t1 : kitB "tuple" "bool" = some false := by decide +kernel
      have t2 : kitB "tuple" "int" = some false := by decide +kernel
      have t3 : kitB "tuple" "str" = some false := by decide +kernel
      have t4 : kitB "tuple" "list" = some false := by decide +kernel
      have t5 : kitB "tuple" "tuple" = some true := by decide +kernel
      cases d with
      | non =>
        refine rr_take (by walk_at "evr") rfl ?_
        walk_at "ret"
      | bl b =>
        refine rr_skip (by walk_at "evr") rfl ?_
        refine rr_take (et_test (ev_isi (ev_var rfl) rfl b1)) rfl ?_
        exact rr_ret (ev_andV (ev_isi (ev_var rfl) rfl b1) (fun _ => ev_eqB (ev_var rfl) (ev_var rfl))) (by rw [decide_eq_true rfl]; rfl)
      | int i =>
        refine rr_skip (by walk_at "evr") rfl ?_
        refine rr_skip (et_test (ev_isi (ev_var rfl) rfl b2)) rfl ?_
        refine rr_take (et_test (ev_isi (ev_var rfl) rfl b3)) rfl ?_
        exact rr_ret (ev_andV (ev_isi (ev_var rfl) rfl b3) (fun _ => ev_andV (ev_notV (ev_isi (ev_var rfl) rfl b2)) (fun _ => ev_eqI (ev_var rfl) (ev_var rfl)))) (by rw [decide_eq_true rfl]; rfl)
      | str s => exact absurd h (by unfold Sm; exact id)
      | dic s => exact absurd h (by unfold Sm; exact id)
      | brd a b c => exact absurd h (by unfold Sm; exact id)
      | tup ds =>
        have h : ds.length ≤ 10 ∧ ∀ d ∈ ds, Sm k d := h
        refine rr_skip (by walk_at "evr") rfl ?_
        refine rr_skip (et_test (ev_isi (ev_var rfl) rfl t1)) rfl ?_
        refine rr_skip (et_test (ev_isi (ev_var rfl) rfl t2)) rfl ?_
        refine rr_skip (et_test (ev_isi (ev_var rfl) rfl t3)) rfl ?_
        refine rr_skip (et_andF (et_test (ev_isi (ev_var rfl) rfl t4)) rfl) rfl ?_
        refine rr_skip (et_andT (et_test (ev_isi (ev_var rfl) rfl t5)) rfl (et_not (et_test (ev_isi (ev_var rfl) rfl t5)))) rfl ?_
        refine rr_skip (et_test (ev_neI (ev_len (ds := ds) (ev_var rfl) rfl) (ev_len (ds := ds) (ev_var rfl) rfl))) (by rw [decide_eq_true rfl]; rfl) ?_
        exact rr_ret (same_seq (x := .tup ds) (ds := ds) rfl h.1 h.2) rfl
      | lst ds =>
        have h : ds.length ≤ 10 ∧ ∀ d ∈ ds, Sm k d := h
        refine rr_skip (by walk_at "evr") rfl ?_
        refine rr_skip (et_test (ev_isi (ev_var rfl) rfl l1)) rfl ?_
        refine rr_skip (et_test (ev_isi (ev_var rfl) rfl l2)) rfl ?_
        refine rr_skip (et_test (ev_isi (ev_var rfl) rfl l3)) rfl ?_
        refine rr_skip (et_andT (et_test (ev_isi (ev_var rfl) rfl l4)) rfl (et_not (et_test (ev_isi (ev_var rfl) rfl l4)))) rfl ?_
        refine rr_skip (et_andF (et_test (ev_isi (ev_var rfl) rfl l5)) rfl) rfl ?_
        refine rr_skip (et_test (ev_neI (ev_len (ds := ds) (ev_var rfl) rfl) (ev_len (ds := ds) (ev_var rfl) rfl))) (by rw [decide_eq_true rfl]; rfl) ?_
        exact rr_ret (same_seq (x := .lst ds) (ds := ds) rfl h.1 h.2) rfl
end
end Sw
end
section
open PySem PySem.Spec PyProof.Rows L2 Sw Sd
local macro_rules | `(tactic| walk_at "ev") => `(tactic| first
  | with_reducible exact ev_cI
  | with_reducible exact ev_cS
  | with_reducible exact ev_cB
  | with_reducible exact ev_cN
  | with_reducible exact ea_nil
  | ((with_reducible apply ev_var); rfl)
  | ((with_reducible apply ea_cons); (· walk_at "ev"); (· walk_at "ev"))
  | ((with_reducible apply ev_add); (· walk_at "ev"); (· walk_at "ev"))
  | ((with_reducible apply ev_sub); (· walk_at "ev"); (· walk_at "ev"))
  | ((with_reducible apply ev_min2); (· walk_at "ev"); (· walk_at "ev"))
  | ((with_reducible apply ev_lt); (· walk_at "ev"); (· walk_at "ev"))
  | ((with_reducible apply ev_le); (· walk_at "ev"); (· walk_at "ev"))
  | ((with_reducible apply ev_gt); (· walk_at "ev"); (· walk_at "ev"))
  | ((with_reducible apply ev_ge); (· walk_at "ev"); (· walk_at "ev"))
  | ((with_reducible apply ev_eqI); (· walk_at "ev"); (· walk_at "ev"))
  | ((with_reducible apply ev_eqS); (· walk_at "ev"); (· walk_at "ev"))
  | ((with_reducible apply ev_eqB); (· walk_at "ev"); (· walk_at "ev"))
  | ((with_reducible apply ev_neI); (· walk_at "ev"); (· walk_at "ev"))
  | ((with_reducible apply ev_neg); (· walk_at "ev"))
  | ((with_reducible apply ev_isN); (· walk_at "ev"))
  | ((with_reducible apply ev_notN); (· walk_at "ev"))
  | ((with_reducible apply et_test); (· walk_at "ev"))
  | ((with_reducible apply et_B); (· walk_at "ev"))
  | ((with_reducible apply et_not); (· walk_at "ev"))
  | ((with_reducible apply ev_tup); (· walk_at "ev"); (· exact Nat.le_of_ble_eq_true rfl))
  | ((with_reducible apply ev_lst); (· walk_at "ev"); (· exact Nat.le_of_ble_eq_true rfl))
  | ((with_reducible apply ev_ix); (· walk_at "ev"); (· walk_at "ev"); (· rfl); (· rfl))
  | ((with_reducible apply ev_mulS); (· walk_at "ev"); (· walk_at "ev"); (· first | exact .inl ⟨by decide, by decide⟩ | exact .inr ⟨by decide, by decide⟩))
  | ((with_reducible apply ev_mulW); (· walk_at "ev"); (· walk_at "ev"); (· walk_at "sd"))
  | ((with_reducible apply ev_mod); (· walk_at "ev"); (· walk_at "ev"); (· walk_at "sd"))
  | ((with_reducible apply ev_div); (· walk_at "ev"); (· walk_at "ev"); (· walk_at "sd"))
  | ((with_reducible apply ev_prop); (· walk_at "ev"); (· walk_at "pr"))
  | ((with_reducible apply ev_chain); (· walk_at "ev"); (· walk_at "ev"); (· walk_at "ev"); (· exact r2_cmp); (· exact r2_cmp))
  | ((with_reducible apply ev_call); (· walk_at "ev"); (· walk_at "rel")))
local macro_rules | `(tactic| walk_at "sd") => `(tactic| first | assumption | decide | omega)
local macro_rules | `(tactic| walk_at "ret") => `(tactic| (apply rr_ret; (· walk_at "ev"); (try rfl)))
local macro_rules | `(tactic| walk_at "asg") => `(tactic| (apply run_asg; (· walk_at "ev"); (· walk_at "tgt")))
local macro_rules | `(tactic| walk_at "tgt") => `(tactic| first
  | with_reducible exact eg_name
  | ((apply eg_tup); (· rfl); (· walk_at "tgt"))
  | with_reducible exact egs_nil
  | ((with_reducible apply egs_cons); (· walk_at "tgt"); (· walk_at "tgt")))
local macro_rules | `(tactic| walk_at "set") => `(tactic| (apply rr_seq; (· walk_at "asg")))
local macro_rules | `(tactic| walk_at "par") => `(tactic| (apply rr_seq; (· apply run_par; walk_at "ev")))
local macro_rules | `(tactic| walk_at "asgE") => `(tactic| (apply run_eq; (· walk_at "asg"); (· rfl)))
local macro_rules | `(tactic| walk_at "parE") => `(tactic| (apply run_eq; (· apply run_par; walk_at "ev"); (· rfl)))
local macro_rules | `(tactic| walk_at "evr") => `(tactic| first | (apply et_is; (· walk_at "ev"); (· rfl)) | (apply ev_is; (· walk_at "ev"); (· rfl)))
local macro_rules | `(tactic| walk_at "drop") => `(tactic| (apply rr_seq; (· apply run_drop; walk_at "ev")))

namespace Sw
open Sd
local macro_rules | `(tactic| walk_at "rel") => `(tactic| first
  | exact r_go.mk _ _ _ _ _ _ _ (by assumption) (by assumption) (by assumption) (by assumption) (by assumption)
  | exact r_tog.mk _ _ _ _ _ _ (by assumption) (by assumption) (by assumption) (by assumption)
  | exact r_cnt.mk _ _ _ _ (by assumption) (by assumption)
  | exact r_loc.mk _ _ _ _ (by assumption) (by assumption)
  | exact r_csq.mk _ _ _ _ (by assumption)
  | exact r_cway.mk _ _ _ _ _ (by assumption) (by assumption)
  | exact r_frm.mk _ _ _ (by assumption)
  | exact r_legs.mk _ (by assumption) _ _ _ (by assumption)
  | exact r_str.mk _ _ _ _ _ _ (by assumption) (by assumption) (by assumption) (by assumption)
  | exact r_flen.mk _ _ _ _ _ (by assumption) (by assumption) (by assumption)
  | exact r_steps.mk3 _ (by assumption) _ _ _ _ _
  | exact r_steps.mk2 _ (by assumption) _ _ _ _
  | exact r_tom.mk _ (by assumption) _ _
  | exact r_from.mk _ (by assumption) _ _ _ _ (by assumption)
  | exact r_behind.mk _ _ _ _
  | exact r_gcd.mk _ _ (by assumption) (by assumption) (by assumption) (by assumption)
  | exact r_cls.mk _ _ _ (by assumption)
  | exact r_fsq.mk _ _ (by assumption)
  | exact r_fpt.mk _ _ (by assumption)
  | exact r_pts.mk _ _
  | exact r_unf.mk _ _ _ _)
local macro_rules | `(tactic| walk_at "pr") => `(tactic| first
  | exact r_w.mk _ _ _
  | exact r_h.mk _ _ _
  | exact r_mirs.mk _ _ _ (by assumption))

inductive r_bare : List D → D → Prop where
  | mk (w h : Int) (s t : P2) (ns : List Int) (k : KvOk w h []) (o : OnB w h s) (o2 : OnB w h t) (hn : ∀ n ∈ ns, 0 ≤ n) : r_bare [.brd w h [], .int w, .int h, .lst [dP s, dP t], .lst (ns.map D.int)] (.bl true)
theorem sm_int {k : Nat} (i : Int) : Sm (k + 1) (.int i) := trivial
theorem sm_bl {k : Nat} (b : Bool) : Sm (k + 1) (.bl b) := trivial
theorem sm_dP {k : Nat} (p : P2) : Sm (k + 2) (dP p) := ⟨Nat.le_of_ble_eq_true rfl, fun d hd => by
  simp only [List.mem_cons, List.not_mem_nil, or_false] at hd
  rcases hd with rfl | rfl <;> trivial⟩
theorem sm_loc (a b : P2) : Sm 3 (.tup [dP a, dP b]) := ⟨Nat.le_of_ble_eq_true rfl, fun d hd => by
  simp only [List.mem_cons, List.not_mem_nil, or_false] at hd
  rcases hd with rfl | rfl <;> exact sm_dP _⟩
theorem sm_two (a b : Int) : Sm 3 (.lst [.int a, .int b]) := ⟨Nat.le_of_ble_eq_true rfl, fun d hd => by
  simp only [List.mem_cons, List.not_mem_nil, or_false] at hd
  rcases hd with rfl | rfl <;> trivial⟩
theorem sm_str (a : Int) : Sm 3 (.lst [.tup [.int a, .non]]) := ⟨Nat.le_of_ble_eq_true rfl, fun d hd => by
  simp only [List.mem_cons, List.not_mem_nil, or_false] at hd
  subst hd
  exact ⟨Nat.le_of_ble_eq_true rfl, fun d hd => by
    simp only [List.mem_cons, List.not_mem_nil, or_false] at hd
    rcases hd with rfl | rfl <;> trivial⟩⟩
/-- runs that go on, with something known of the slots -/
def RunE (C : Addr) (t : TS) (es : Es) (Pst : Es → Prop) : Prop := ∃ e, Run C t es (.nx e) ∧ Pst e
section
variable {C : Addr} {K : PySem.W.Frag} {g : TG} {t u : TS} {c : TT} {te : TE} {es e1 : Es} {b : Bool} {Pst : Es → Prop}
theorem re_seq (h : Run C t es (.nx e1)) (k : RunE C u e1 Pst) : RunE C (tSeq t u) es Pst := k.imp fun _ k => ⟨run_seq h k.1, k.2⟩
theorem re_skip (h : EvT C c es b e1) (e : b = false) (k : RunE C u e1 Pst) : RunE C (tSeq (tIfS c t tNext) u) es Pst := re_seq (run_ifF h e run_next) k
theorem re_last (h : EvT C c es b e1) (e : b = false) (p : Pst e1) : RunE C (tIfS c t tNext) es Pst := ⟨e1, run_ifF h e run_next, p⟩
theorem loop_inv {α : Type} {enc : α → D} {Inv : Es → Prop} : ∀ {xs : List α}, (∀ a ∈ xs, ∀ e, Inv e → ∃ e1, EvG C g (enc a) e e1 ∧ RunE C t e1 Inv) → ∀ e, Inv e → ∃ e', LoopR C g t (xs.map enc) e (.nx e') ∧ Inv e'
  | [], _, e, i => ⟨e, rfl, i⟩
  | a :: xs, h, e, i => by
    obtain ⟨e1, h1, e2, h2, i2⟩ := h a (List.mem_cons_self ..) e i
    obtain ⟨e3, h3, i3⟩ := loop_inv (fun b hb => h b (List.mem_cons_of_mem _ hb)) e2 i2
    exact ⟨e3, ⟨e1, h1, .nx e2, h2, h3⟩, i3⟩
theorem re_for {xs : List D} (h : EvM C te es (.lst xs) e1) (l : ∃ e, LoopR C g t xs e1 (.nx e) ∧ Pst e) : RunE C (tFor (iList K te) g t) es Pst := l.imp fun _ l => ⟨run_for h l.1, l.2⟩
end
section
variable {P : Program} {w : World} {K : PySem.W.Frag} {mg : Str → Option Value} {base : Heap} {C : Addr}
theorem ok_bare (d : Df K mg "_law_bare" s_law_bare) (T : Txt K mg C) (c_law_divisor : CallOk P w K mg base "_law_divisor" 1 ["_law_a", "_law_b"] (spP C r_div)) (c_law_same : CallOk P w K mg base "_law_same" 4 ["_law_found", "_law_due"] (spP C (r_same 3)))
    (c_far_count : CallOk P w K mg base "far_count" 4 ["board"] (spP C r_cnt)) (c_far_length : CallOk P w K mg base "far_length" 6 ["board", "square"] (spP C r_flen)) (c_far_together : CallOk P w K mg base "far_together" 5 ["board", "one", "other"] (spP C r_tog))
    (c_next_mirror : CallOk P w K mg base "next_mirror" 5 ["board", "square", "point"] (spP C r_nxm)) (c_stretches : CallOk P w K mg base "stretches" 5 ["board", "square", "point"] (spP C r_str)) (c_go_on : CallOk P w K mg base "go_on" 5 ["board", "square", "point", "steps"] (spP C r_go))
    (c_law_points : CallOk P w K mg base "_law_points" 1 ["_law_here"] (spP C r_lpts)) (c_law_unfolded : CallOk P w K mg base "_law_unfolded" 1 ["_law_here", "_law_goal"] (spP C r_lunf))
    (c_law_bare_step : CallOk P w K mg base "_law_bare_step" 2 ["_law_wide", "_law_high", "_law_here", "_law_goal", "_law_steps"] (spP C r_stp)) :
    CallOk P w K mg base "_law_bare" 7 ["_law_board", "_law_wide", "_law_high", "_law_squares", "_law_many"] (spP C r_bare) := by
  refine .mk' d (fun f fd F => fn_pure F sc_law_bare (fun ds d h => by cases h <;> rfl) fun cdv A outer s0 H E ds d hr h => ?_) (fun _ _ _ _ _ _ us hl => match us, hl with | [_, _, _, _, _], _ => rfl)
  cases h with
  | mk w0 h0 s t ns k o o2 hn =>
    refine ⟨_, (pss_cons (ps_set (i := 5) sc_law_bare.nd rfl (Or.inl rfl) (pe_callC c_law_divisor hr (by decide) rfl (pa_cons (pv 1) (pa_cons (pv 2) pa_nil))))
      (pss_cons (ps_set (i := 6) sc_law_bare.nd rfl (Or.inl rfl) (pe_op op_mulW (pe_op op_mul pe_int (pe_op op_fdivW (pv 1) (pv 5))) (pv 2)))
      (pss_cons (ps_asg (pv 3) (pg_unl rfl (pgs_cons (pg_name (i := 7) sc_law_bare.nd rfl (Or.inl rfl)) (pgs_cons (pg_name (i := 8) sc_law_bare.nd rfl (Or.inl rfl)) pgs_nil))))
      (pss_cons (ps_if (pt_not (pt_val (pe_callC c_law_same hr (by decide) rfl (pa_cons (pe_lst (pa_cons (pe_callC c_far_count hr (by decide) rfl (pa_cons (pv 0) pa_nil)) (pa_cons (pe_callC c_far_length hr (by decide) rfl (pa_cons (pv 0) (pa_cons (pv 7) pa_nil))) pa_nil))) (pa_cons (pe_lst (pa_cons (pv 5) (pa_cons (pv 6) pa_nil))) pa_nil))))) (pss_one (ps_ret pe_bl)) pss_nil)
      (pss_cons (ps_set (i := 9) sc_law_bare.nd rfl (Or.inl rfl) (pe_lst pa_nil))
      (pss_cons (ps_for PassesOwn.never rfl (pi_list (pv 3)) (pg_name (i := 10) sc_law_bare.nd rfl (Or.inl rfl))
      (pss_cons (ps_asg (pe_callC c_law_unfolded hr (by decide) rfl (pa_cons (pv 10) (pa_cons (pe_ix ix_seq (pe_callC c_law_points hr (by decide) rfl (pa_cons (pv 10) pa_nil)) pe_int (fun _ _ => rfl)) pa_nil))) (pg_tup rfl (pgs_cons (pg_name (i := 11) sc_law_bare.nd rfl (Or.inl rfl)) (pgs_cons (pg_name (i := 12) sc_law_bare.nd rfl (Or.inl rfl)) pgs_nil))))
      (pss_cons (ps_set (i := 13) sc_law_bare.nd rfl (Or.inl rfl) (pe_op op_mod (pe_callTy call_int1 rfl T.b_int (by decide +kernel) (pa_cons (pe_op op_sub (pv 11) (pv 12)) pa_nil)) (pe_op op_mul pe_int (pv 5))))
      (pss_one (ps_expr (pe_bm PySem.F.plainAttrs_list PySem.F.slot_list_append PySem.F.type_list_append mt_append (pv 9) (pa_cons (pe_callB (call_min2 rfl) rfl T.b_min (by decide +kernel) (pa_cons (pv 13) (pa_cons (pe_op op_sub (pe_op op_mul pe_int (pv 5)) (pv 13)) pa_nil))) pa_nil)))))))
      (pss_cons (ps_if (pt_not (pt_val (pe_callC c_law_same hr (by decide) rfl (pa_cons (pe_callC c_far_together hr (by decide) rfl (pa_cons (pv 0) (pa_cons (pv 7) (pa_cons (pv 8) pa_nil)))) (pa_cons (pe_cmpR op_eq (pe_ix ix_seq (pv 9) pe_int (fun _ _ => rfl)) (pe_ix ix_seq (pv 9) pe_int (fun _ _ => rfl)) (nomark _)) pa_nil))))) (pss_one (ps_ret pe_bl)) pss_nil)
      (pss_cons (ps_for PassesOwn.never rfl (pi_list (pe_callC c_law_points hr (by decide) rfl (pa_cons (pv 7) pa_nil))) (pg_name (i := 14) sc_law_bare.nd rfl (Or.inl rfl))
      (pss_cons (ps_if (pt_cmp (pc_notN (pe_callC c_next_mirror hr (by decide) rfl (pa_cons (pv 0) (pa_cons (pv 7) (pa_cons (pv 14) pa_nil)))))) (pss_one (ps_ret pe_bl)) pss_nil)
      (pss_cons (ps_if (pt_not (pt_val (pe_callC c_law_same hr (by decide) rfl (pa_cons (pe_callC c_stretches hr (by decide) rfl (pa_cons (pv 0) (pa_cons (pv 7) (pa_cons (pv 14) pa_nil)))) (pa_cons (pe_lst (pa_cons (pe_tup (pa_cons (pv 6) (pa_cons pe_non pa_nil))) pa_nil)) pa_nil))))) (pss_one (ps_ret pe_bl)) pss_nil)
      (pss_one (ps_for PassesOwn.never rfl (pi_list (pv 4)) (pg_name (i := 15) sc_law_bare.nd rfl (Or.inl rfl))
      (pss_cons (ps_set (i := 16) sc_law_bare.nd rfl (Or.inl rfl) (pe_callC c_law_bare_step hr (by decide) rfl (pa_cons (pv 1) (pa_cons (pv 2) (pa_cons (pv 7) (pa_cons (pv 14) (pa_cons (pv 15) pa_nil)))))))
      (pss_cons (ps_if (pt_not (pt_val (pe_callC c_law_same hr (by decide) rfl (pa_cons (pe_callC c_go_on hr (by decide) rfl (pa_cons (pv 0) (pa_cons (pv 7) (pa_cons (pv 14) (pa_cons (pv 15) pa_nil))))) (pa_cons (pv 16) pa_nil))))) (pss_one (ps_ret pe_bl)) pss_nil)
      (pss_one (ps_if (pt_not (pt_val (pe_callC c_law_same hr (by decide) rfl (pa_cons (pe_callC c_far_together hr (by decide) rfl (pa_cons (pv 0) (pa_cons (pe_ix ix_seq (pv 16) pe_int (fun _ _ => rfl)) (pa_cons (pv 7) pa_nil)))) (pa_cons pe_bl pa_nil))))) (pss_one (ps_ret pe_bl)) pss_nil)))))))))
      (pss_one (ps_ret pe_bl)))))))))), ?_⟩
    have hw := k.ms.w0
    have hh := k.ms.h0
    have hwb := k.wb
    have hhb := k.hb
    obtain ⟨g, G⟩ := isG_ex (a := w0) (b := h0) (by omega) (by omega)
    have gpos := G.pos
    have gw : g ≤ w0 := Int.le_of_dvd (by omega) G.da
    have q0 : 0 ≤ w0 / g := Int.ediv_nonneg (by omega) (by omega)
    have q1 : w0 / g ≤ w0 := Int.ediv_le_self g (by omega)
    have hFg : (frameOf w0 h0 []).g = 4 * g := bare_g hw hh G.pos G.da G.db G.gr
    have eC : farCount (frameOf w0 h0 (mirs [])) = some g := by rw [mirs_nil]; exact bare_count hw hh G.pos G.da G.db G.gr
    have eL : ∀ p, farLen (frameOf w0 h0 (mirs [])) p = some (4 * (w0 / g) * h0) := fun p => by rw [mirs_nil, bare_len hw hh p, bare_L hw hh G.pos G.da G.db G.gr]
    have eS : ∀ p, legs (frameOf w0 h0 (mirs [])) p = some [(4 * (w0 / g) * h0, none)] := fun p => by
      rw [mirs_nil, ← bare_L hw hh G.pos G.da G.db G.gr]
      rfl
    have eT : ∀ p q r, farTog (frameOf w0 h0 (mirs [])) p q r = some (decide (threadClass (frameOf w0 h0 []) p = threadClass (frameOf w0 h0 []) q)) := fun p q r => by rw [mirs_nil]; exact bare_tog hw hh p q r
    have d1 : CDivW w0 g := small_div (b := 120) gpos (by omega)
    have m1 : CMulW (4 * (w0 / g)) h0 := small_mul (a := 120) (b := 120) (by omega) (by omega)
    generalize hLL : 4 * (w0 / g) * h0 = L at eL eS
    refine rr_seq (run_asg (d := .int g) (ev_call (ds := [.int w0, .int h0]) (by walk_at "ev") (r_div.mk w0 h0 g (by omega) (by omega) (by omega) G)) eg_name) ?_
    refine rr_seq (run_asg (d := .int L) (ev_is (ev_mulW (ev_mulS ev_cI (ev_div (ev_var rfl) (ev_var rfl) d1) (.inl ⟨by decide, by decide⟩)) (ev_var rfl) m1) (by rw [hLL])) eg_name) ?_
    refine rr_seq (run_asg (d := .lst [dP s, dP t]) (ev_var rfl) (eg_unl rfl (egs_cons eg_name (egs_cons eg_name egs_nil)))) ?_
    refine rr_skip (et_not (et_test (ev_call (ds := [.lst [.int g, .int L], .lst [.int g, .int L]]) (ea_cons (ev_lst (ea_cons (ev_call (ds := [.brd w0 h0 []]) (by walk_at "ev") (r_cnt.mk w0 h0 [] g k eC)) (ea_cons (ev_call (ds := [.brd w0 h0 [], dP s]) (by walk_at "ev") (r_flen.mk w0 h0 [] s L k o (eL _))) ea_nil)) (Nat.le_of_ble_eq_true rfl)) (ea_cons (by walk_at "ev") ea_nil)) (r_same.mk _ (sm_two _ _))))) rfl ?_
    refine rr_seq run_newL ?_
    have cls : ∀ p, threadClass (frameOf w0 h0 []) p = min2 ((p.1 - p.2) % (4 * g)) (4 * g - (p.1 - p.2) % (4 * g)) := fun p => by
      show pmin ((p.1 - p.2) % (frameOf w0 h0 []).g) ((frameOf w0 h0 []).g - (p.1 - p.2) % (frameOf w0 h0 []).g) = _
      rw [hFg]
      rfl
    have g4 : 0 < 4 * g := by omega
    refine rr_for (xs := [dP s, dP t]) (Pst := fun e => ∃ a b c d, e = [.p (.brd w0 h0 []), .p (.int w0), .p (.int h0), .p (.lst [dP s, dP t]), .p (.lst (ns.map D.int)), .p (.int g), .p (.int L), .p (dP s), .p (dP t), .oL [.int (threadClass (frameOf w0 h0 []) (unf s (pts s).1)), .int (threadClass (frameOf w0 h0 []) (unf t (pts t).1))], a, b, c, d, .no, .no, .no]) (ev_var rfl) ?rl ?ra
    case rl =>
      refine ⟨_, ⟨_, eg_name, .nx [.p (.brd w0 h0 []), .p (.int w0), .p (.int h0), .p (.lst [dP s, dP t]), .p (.lst (ns.map D.int)), .p (.int g), .p (.int L), .p (dP s), .p (dP t), .oL [.int (threadClass (frameOf w0 h0 []) (unf s (pts s).1))], .p (dP s), .p (.int (unf s (pts s).1).1), .p (.int (unf s (pts s).1).2), .p (.int (((unf s (pts s).1).1 - (unf s (pts s).1).2) % (4 * g))), .no, .no, .no], ?_,
        ⟨_, eg_name, .nx [.p (.brd w0 h0 []), .p (.int w0), .p (.int h0), .p (.lst [dP s, dP t]), .p (.lst (ns.map D.int)), .p (.int g), .p (.int L), .p (dP s), .p (dP t), .oL [.int (threadClass (frameOf w0 h0 []) (unf s (pts s).1)), .int (threadClass (frameOf w0 h0 []) (unf t (pts t).1))], .p (dP t), .p (.int (unf t (pts t).1).1), .p (.int (unf t (pts t).1).2), .p (.int (((unf t (pts t).1).1 - (unf t (pts t).1).2) % (4 * g))), .no, .no, .no], ?_, rfl⟩⟩, _, _, _, _, rfl⟩
      · refine run_seq (run_asg (d := .tup [.int (unf s (pts s).1).1, .int (unf s (pts s).1).2]) (ev_call (ds := [dP s, dP (pts s).1]) (ea_cons (ev_var rfl) (ea_cons (ev_ix (ev_call (ds := [dP s]) (by walk_at "ev") (r_lpts.mk s)) ev_cI rfl rfl) ea_nil)) (r_lunf.mk s _)) (by walk_at "tgt")) ?_
        refine run_seq (run_asg (ev_mod (ev_int1 (ev_sub (ev_var rfl) (ev_var rfl))) (ev_mulS ev_cI (ev_var rfl) (.inl ⟨by decide, by decide⟩)) g4) eg_name) ?_
        exact run_eq (run_append (d := .int (threadClass (frameOf w0 h0 []) (unf s (pts s).1))) (ev_is (ev_min2 (ev_var rfl) (ev_sub (ev_mulS ev_cI (ev_var rfl) (.inl ⟨by decide, by decide⟩)) (ev_var rfl))) (by rw [cls])) rfl (small_line (Nat.le_of_ble_eq_true rfl))) rfl
      · refine run_seq (run_asg (d := .tup [.int (unf t (pts t).1).1, .int (unf t (pts t).1).2]) (ev_call (ds := [dP t, dP (pts t).1]) (ea_cons (ev_var rfl) (ea_cons (ev_ix (ev_call (ds := [dP t]) (by walk_at "ev") (r_lpts.mk t)) ev_cI rfl rfl) ea_nil)) (r_lunf.mk t _)) (by walk_at "tgt")) ?_
        refine run_seq (run_asg (ev_mod (ev_int1 (ev_sub (ev_var rfl) (ev_var rfl))) (ev_mulS ev_cI (ev_var rfl) (.inl ⟨by decide, by decide⟩)) g4) eg_name) ?_
        exact run_eq (run_append (d := .int (threadClass (frameOf w0 h0 []) (unf t (pts t).1))) (ev_is (ev_min2 (ev_var rfl) (ev_sub (ev_mulS ev_cI (ev_var rfl) (.inl ⟨by decide, by decide⟩)) (ev_var rfl))) (by rw [cls])) rfl (small_line (Nat.le_of_ble_eq_true rfl))) rfl
    case ra =>
      rintro e ⟨a, b, c, d, rfl⟩
      refine rr_frL (i := 9) (ds := [.int (threadClass (frameOf w0 h0 []) (unf s (pts s).1)), .int (threadClass (frameOf w0 h0 []) (unf t (pts t).1))]) rfl ?_
      generalize hB : decide (threadClass (frameOf w0 h0 []) (unf s (pts s).1) = threadClass (frameOf w0 h0 []) (unf t (pts t).1)) = B
      have eB := eT (unf s (pts s).1) (unf t (pts t).1) (unf t (pts t).2)
      rw [hB] at eB
      refine rr_skip (et_not (et_test (ev_call (ds := [.bl B, .bl B]) (ea_cons (ev_call (ds := [.brd w0 h0 [], dP s, dP t]) (by walk_at "ev") (r_tog.mk w0 h0 [] s t B k o o2 eB)) (ea_cons (ev_is (ev_eqI (ev_ix (ev_var rfl) ev_cI rfl rfl) (ev_ix (ev_var rfl) ev_cI rfl rfl)) (by rw [hB])) ea_nil)) (r_same.mk _ (sm_bl B))))) rfl ?_
      refine rr_for (xs := [(pts s).1, (pts s).2].map dP) (Pst := fun _ => True) (ev_call (ds := [dP s]) (by walk_at "ev") (r_lpts.mk s)) ?gl (fun _ _ => rr_ret ev_cB rfl)
      case gl =>
        refine (loop_inv (Inv := fun e => ∃ x y z, e = [.p (.brd w0 h0 []), .p (.int w0), .p (.int h0), .p (.lst [dP s, dP t]), .p (.lst (ns.map D.int)), .p (.int g), .p (.int L), .p (dP s), .p (dP t), .p (.lst [.int (threadClass (frameOf w0 h0 []) (unf s (pts s).1)), .int (threadClass (frameOf w0 h0 []) (unf t (pts t).1))]), a, b, c, d, x, y, z]) ?_ _ ⟨.no, .no, .no, rfl⟩).imp fun e h => ⟨h.1, trivial⟩
        rintro p hp e ⟨x, y, z, rfl⟩
        have kp : IsPt s p := by
          simp only [List.mem_cons, List.not_mem_nil, or_false] at hp
          exact hp
        refine ⟨_, eg_name, ?_⟩
        refine re_skip (et_B (ev_notN (ev_call (ds := [.brd w0 h0 [], dP s, dP p]) (by walk_at "ev") (r_nxm.mk w0 h0 s p k o kp)))) rfl ?_
        refine re_skip (et_not (et_test (ev_call (ds := [.lst [.tup [.int L, .non]], .lst [.tup [.int L, .non]]]) (ea_cons (ev_call (ds := [.brd w0 h0 [], dP s, dP p]) (by walk_at "ev") (r_str.mk w0 h0 [] s p _ k o kp (eS _))) (ea_cons (by walk_at "ev") ea_nil)) (r_same.mk _ (sm_str L))))) rfl ?_
        refine re_for (xs := ns.map D.int) (ev_var rfl) ?_
        refine loop_inv (Inv := fun e => ∃ x y z, e = [.p (.brd w0 h0 []), .p (.int w0), .p (.int h0), .p (.lst [dP s, dP t]), .p (.lst (ns.map D.int)), .p (.int g), .p (.int L), .p (dP s), .p (dP t), .p (.lst [.int (threadClass (frameOf w0 h0 []) (unf s (pts s).1)), .int (threadClass (frameOf w0 h0 []) (unf t (pts t).1))]), a, b, c, d, x, y, z] ∧ x = .p (dP p)) ?_ _ ⟨.p (dP p), y, z, rfl, rfl⟩ |>.imp fun e h => ⟨h.1, h.2.imp fun x h => h.imp fun y h => h.imp fun z h => h.1⟩
        rintro n hmem e ⟨x, y, z, rfl, rfl⟩
        have n0 := hn n hmem
        obtain ⟨q, e1, e2⟩ := bare_go hw hh (unf s p) n n0
        refine ⟨_, eg_name, ?_⟩
        refine re_seq (run_asg (ev_call (ds := [.int w0, .int h0, dP s, dP p, .int n]) (by walk_at "ev") (r_stp.mk w0 h0 s p n hw hh)) eg_name) ?_
        have eb := bare_back hw hh kp n n0
        have onb := located_on hw hh (shift (unf s p) n)
        generalize located w0 h0 (shift (unf s p) n) = lc at e2 eb onb ⊢
        refine re_skip (et_not (et_test (ev_call (ds := [.tup [dP lc.1, dP lc.2], .tup [dP lc.1, dP lc.2]]) (ea_cons (ev_is (ev_call (ds := [.brd w0 h0 [], dP s, dP p, .int n]) (by walk_at "ev") (r_go.mk w0 h0 [] s p n q k o kp n0 (by rw [mirs_nil]; exact e1))) (by rw [e2])) (ea_cons (ev_var rfl) ea_nil)) (r_same.mk _ (sm_loc _ _))))) rfl ?_
        refine re_last (et_not (et_test (ev_call (ds := [.bl true, .bl true]) (ea_cons (ev_call (ds := [.brd w0 h0 [], dP lc.1, dP s]) (ea_cons (ev_var rfl) (ea_cons (ev_ix (ev_var rfl) ev_cI rfl rfl) (ea_cons (ev_var rfl) ea_nil))) (r_tog.mk w0 h0 [] lc.1 s true k onb o (by rw [mirs_nil]; exact eb))) (ea_cons ev_cB ea_nil)) (r_same.mk _ (sm_bl true))))) rfl ?_
        exact ⟨_, _, _, rfl, rfl⟩
end
end Sw
end
section
open PySem PySem.Spec PyProof.Rows L2 Sw Sd
local macro_rules | `(tactic| walk_at "ev") => `(tactic| first
  | with_reducible exact ev_cI
  | with_reducible exact ev_cS
  | with_reducible exact ev_cB
  | with_reducible exact ev_cN
  | with_reducible exact ea_nil
  | ((with_reducible apply ev_var); rfl)
  | ((with_reducible apply ea_cons); (· walk_at "ev"); (· walk_at "ev"))
  | ((with_reducible apply ev_add); (· walk_at "ev"); (· walk_at "ev"))
  | ((with_reducible apply ev_sub); (· walk_at "ev"); (· walk_at "ev"))
  | ((with_reducible apply ev_min2); (· walk_at "ev"); (· walk_at "ev"))
  | ((with_reducible apply ev_lt); (· walk_at "ev"); (· walk_at "ev"))
  | ((with_reducible apply ev_le); (· walk_at "ev"); (· walk_at "ev"))
  | ((with_reducible apply ev_gt); (· walk_at "ev"); (· walk_at "ev"))
  | ((with_reducible apply ev_ge); (· walk_at "ev"); (· walk_at "ev"))
  | ((with_reducible apply ev_eqI); (· walk_at "ev"); (· walk_at "ev"))
  | ((with_reducible apply ev_eqS); (· walk_at "ev"); (· walk_at "ev"))
  | ((with_reducible apply ev_eqB); (· walk_at "ev"); (· walk_at "ev"))
  | ((with_reducible apply ev_neI); (· walk_at "ev"); (· walk_at "ev"))
  | ((with_reducible apply ev_neg); (· walk_at "ev"))
  | ((with_reducible apply ev_isN); (· walk_at "ev"))
  | ((with_reducible apply ev_notN); (· walk_at "ev"))
  | ((with_reducible apply et_test); (· walk_at "ev"))
  | ((with_reducible apply et_B); (· walk_at "ev"))
  | ((with_reducible apply et_not); (· walk_at "ev"))
  | ((with_reducible apply ev_tup); (· walk_at "ev"); (· exact Nat.le_of_ble_eq_true rfl))
  | ((with_reducible apply ev_lst); (· walk_at "ev"); (· exact Nat.le_of_ble_eq_true rfl))
  | ((with_reducible apply ev_ix); (· walk_at "ev"); (· walk_at "ev"); (· rfl); (· rfl))
  | ((with_reducible apply ev_mulS); (· walk_at "ev"); (· walk_at "ev"); (· first | exact .inl ⟨by decide, by decide⟩ | exact .inr ⟨by decide, by decide⟩))
  | ((with_reducible apply ev_mulW); (· walk_at "ev"); (· walk_at "ev"); (· walk_at "sd"))
  | ((with_reducible apply ev_mod); (· walk_at "ev"); (· walk_at "ev"); (· walk_at "sd"))
  | ((with_reducible apply ev_div); (· walk_at "ev"); (· walk_at "ev"); (· walk_at "sd"))
  | ((with_reducible apply ev_prop); (· walk_at "ev"); (· walk_at "pr"))
  | ((with_reducible apply ev_chain); (· walk_at "ev"); (· walk_at "ev"); (· walk_at "ev"); (· exact r2_cmp); (· exact r2_cmp))
  | ((with_reducible apply ev_call); (· walk_at "ev"); (· walk_at "rel")))
local macro_rules | `(tactic| walk_at "sd") => `(tactic| first | assumption | decide | omega)
local macro_rules | `(tactic| walk_at "ret") => `(tactic| (apply rr_ret; (· walk_at "ev"); (try rfl)))
local macro_rules | `(tactic| walk_at "asg") => `(tactic| (apply run_asg; (· walk_at "ev"); (· walk_at "tgt")))
local macro_rules | `(tactic| walk_at "tgt") => `(tactic| first
  | with_reducible exact eg_name
  | ((apply eg_tup); (· rfl); (· walk_at "tgt"))
  | with_reducible exact egs_nil
  | ((with_reducible apply egs_cons); (· walk_at "tgt"); (· walk_at "tgt")))
local macro_rules | `(tactic| walk_at "set") => `(tactic| (apply rr_seq; (· walk_at "asg")))
local macro_rules | `(tactic| walk_at "par") => `(tactic| (apply rr_seq; (· apply run_par; walk_at "ev")))
local macro_rules | `(tactic| walk_at "asgE") => `(tactic| (apply run_eq; (· walk_at "asg"); (· rfl)))
local macro_rules | `(tactic| walk_at "parE") => `(tactic| (apply run_eq; (· apply run_par; walk_at "ev"); (· rfl)))
local macro_rules | `(tactic| walk_at "evr") => `(tactic| first | (apply et_is; (· walk_at "ev"); (· rfl)) | (apply ev_is; (· walk_at "ev"); (· rfl)))
local macro_rules | `(tactic| walk_at "drop") => `(tactic| (apply rr_seq; (· apply run_drop; walk_at "ev")))

namespace Sw
open Sd
local macro_rules | `(tactic| walk_at "rel") => `(tactic| first
  | exact r_go.mk _ _ _ _ _ _ _ (by assumption) (by assumption) (by assumption) (by assumption) (by assumption)
  | exact r_tog.mk _ _ _ _ _ _ (by assumption) (by assumption) (by assumption) (by assumption)
  | exact r_cnt.mk _ _ _ _ (by assumption) (by assumption)
  | exact r_loc.mk _ _ _ _ (by assumption) (by assumption)
  | exact r_csq.mk _ _ _ _ (by assumption)
  | exact r_cway.mk _ _ _ _ _ (by assumption) (by assumption)
  | exact r_frm.mk _ _ _ (by assumption)
  | exact r_legs.mk _ (by assumption) _ _ _ (by assumption)
  | exact r_str.mk _ _ _ _ _ _ (by assumption) (by assumption) (by assumption) (by assumption)
  | exact r_flen.mk _ _ _ _ _ (by assumption) (by assumption) (by assumption)
  | exact r_steps.mk3 _ (by assumption) _ _ _ _ _
  | exact r_steps.mk2 _ (by assumption) _ _ _ _
  | exact r_tom.mk _ (by assumption) _ _
  | exact r_from.mk _ (by assumption) _ _ _ _ (by assumption)
  | exact r_behind.mk _ _ _ _
  | exact r_gcd.mk _ _ (by assumption) (by assumption) (by assumption) (by assumption)
  | exact r_cls.mk _ _ _ (by assumption)
  | exact r_fsq.mk _ _ (by assumption)
  | exact r_fpt.mk _ _ (by assumption)
  | exact r_pts.mk _ _
  | exact r_unf.mk _ _ _ _)
local macro_rules | `(tactic| walk_at "pr") => `(tactic| first
  | exact r_w.mk _ _ _
  | exact r_h.mk _ _ _
  | exact r_mirs.mk _ _ _ (by assumption))

inductive r_ltrn : List D → D → Prop where
  | mk (w h : Int) (kvs : List KeyM) (way : Str) (t : Tn) (s r : P2) (n : Int) (k : KvOk w h kvs) (ht : WayT way t) (o : OnB w h s) (o2 : OnB w h r) (hn : 0 ≤ n) : r_ltrn [.brd w h kvs, .str way, .tup [.int w, .int h], .lst [dP s, dP r], .int n] (.bl true)
def ptAt (s : P2) (i : Int) : P2 := if i = 0 then (pts s).1 else (pts s).2
theorem pt_at {s : P2} {i : Int} (a : 0 ≤ i) (b : i < 2) : atI [dP (pts s).1, dP (pts s).2] i = some (dP (ptAt s i)) := two (P := fun i => atI [dP (pts s).1, dP (pts s).2] i = some (dP (ptAt s i))) rfl rfl a b
theorem pt_is (s : P2) (i : Int) : IsPt s (ptAt s i) := by
  unfold ptAt
  split
  · exact .inl rfl
  · exact .inr rfl
section
variable {P : Program} {w : World} {K : PySem.W.Frag} {mg : Str → Option Value} {base : Heap} {C : Addr}
theorem ok_ltrn (d : Df K mg "_law_turned" s_law_turned) (T : Txt K mg C) (c_turned : MethOk P w K mg base C "turned" 6 ["self", "way"] (spP C r_trn)) (c_law_same : CallOk P w K mg base "_law_same" 4 ["_law_found", "_law_due"] (spP C (r_same 3)))
    (c_far_count : CallOk P w K mg base "far_count" 4 ["board"] (spP C r_cnt)) (c_far_length : CallOk P w K mg base "far_length" 6 ["board", "square"] (spP C r_flen)) (c_far_together : CallOk P w K mg base "far_together" 5 ["board", "one", "other"] (spP C r_tog))
    (c_go_on : CallOk P w K mg base "go_on" 5 ["board", "square", "point", "steps"] (spP C r_go)) (c_law_points : CallOk P w K mg base "_law_points" 1 ["_law_here"] (spP C r_lpts))
    (c_law_moved : CallOk P w K mg base "_law_moved" 1 ["_law_way", "_law_wide", "_law_high", "_law_place"] (spP C r_mvd)) (c_law_moved_square : CallOk P w K mg base "_law_moved_square" 2 ["_law_way", "_law_wide", "_law_high", "_law_here"] (spP C r_msq)) :
    CallOk P w K mg base "_law_turned" 7 ["_law_board", "_law_way", "_law_sides", "_law_squares", "_law_steps"] (spP C r_ltrn) := by
  refine .mk' d (fun f fd F => fn_pure F sc_law_turned (fun ds d h => by cases h <;> rfl) fun cdv A outer s0 H E ds d hr h => ?_) (fun _ _ _ _ _ _ us hl => match us, hl with | [_, _, _, _, _], _ => rfl)
  cases h with
  | mk w0 h0 kvs way t s r n k ht o o2 hn =>
    refine ⟨_, (pss_cons (ps_asg (pv 2) (pg_tup rfl (pgs_cons (pg_name (i := 5) sc_law_turned.nd rfl (Or.inl rfl)) (pgs_cons (pg_name (i := 6) sc_law_turned.nd rfl (Or.inl rfl)) pgs_nil))))
      (pss_cons (ps_set (i := 7) sc_law_turned.nd rfl (Or.inl rfl) (pe_methC T c_turned hr (by decide) (pv 0) (pa_cons (pv 1) pa_nil)))
      (pss_cons (ps_asg (pv 3) (pg_unl rfl (pgs_cons (pg_name (i := 8) sc_law_turned.nd rfl (Or.inl rfl)) (pgs_cons (pg_name (i := 9) sc_law_turned.nd rfl (Or.inl rfl)) pgs_nil))))
      (pss_cons (ps_set (i := 10) sc_law_turned.nd rfl (Or.inl rfl) (pe_callC c_law_moved_square hr (by decide) rfl (pa_cons (pv 1) (pa_cons (pv 5) (pa_cons (pv 6) (pa_cons (pv 8) pa_nil))))))
      (pss_cons (ps_set (i := 11) sc_law_turned.nd rfl (Or.inl rfl) (pe_callC c_law_moved_square hr (by decide) rfl (pa_cons (pv 1) (pa_cons (pv 5) (pa_cons (pv 6) (pa_cons (pv 9) pa_nil))))))
      (pss_cons (ps_if (PW.pt (pw_or (pt_cmpR op_ne (pe_callC c_far_count hr (by decide) rfl (pa_cons (pv 7) pa_nil)) (pe_callC c_far_count hr (by decide) rfl (pa_cons (pv 0) pa_nil)) (nomark _)) (pw_or1 (pt_cmpR op_ne (pe_callC c_far_length hr (by decide) rfl (pa_cons (pv 7) (pa_cons (pv 10) pa_nil))) (pe_callC c_far_length hr (by decide) rfl (pa_cons (pv 0) (pa_cons (pv 8) pa_nil))) (nomark _))))) (pss_one (ps_ret pe_bl)) pss_nil)
      (pss_cons (ps_if (pt_not (pt_val (pe_callC c_law_same hr (by decide) rfl (pa_cons (pe_callC c_far_together hr (by decide) rfl (pa_cons (pv 7) (pa_cons (pv 10) (pa_cons (pv 11) pa_nil)))) (pa_cons (pe_callC c_far_together hr (by decide) rfl (pa_cons (pv 0) (pa_cons (pv 8) (pa_cons (pv 9) pa_nil)))) pa_nil))))) (pss_one (ps_ret pe_bl)) pss_nil)
      (pss_cons (ps_set (i := 12) sc_law_turned.nd rfl (Or.inl rfl) (pe_ix ix_seq (pe_callC c_law_points hr (by decide) rfl (pa_cons (pv 8) pa_nil)) (pe_op op_mod (pe_callTy call_int1 rfl T.b_int (by decide +kernel) (pa_cons (pv 4) pa_nil)) pe_int) (fun _ _ => rfl)))
      (pss_cons (ps_asg (pe_callC c_go_on hr (by decide) rfl (pa_cons (pv 0) (pa_cons (pv 8) (pa_cons (pv 12) (pa_cons (pv 4) pa_nil))))) (pg_tup rfl (pgs_cons (pg_name (i := 13) sc_law_turned.nd rfl (Or.inl rfl)) (pgs_cons (pg_name (i := 14) sc_law_turned.nd rfl (Or.inl rfl)) pgs_nil))))
      (pss_cons (ps_set (i := 15) sc_law_turned.nd rfl (Or.inl rfl) (pe_tup (pa_cons (pe_callC c_law_moved_square hr (by decide) rfl (pa_cons (pv 1) (pa_cons (pv 5) (pa_cons (pv 6) (pa_cons (pv 13) pa_nil))))) (pa_cons (pe_callC c_law_moved hr (by decide) rfl (pa_cons (pv 1) (pa_cons (pv 5) (pa_cons (pv 6) (pa_cons (pv 14) pa_nil))))) pa_nil))))
      (pss_one (ps_ret (pe_callC c_law_same hr (by decide) rfl (pa_cons (pe_callC c_go_on hr (by decide) rfl (pa_cons (pv 7) (pa_cons (pv 10) (pa_cons (pe_callC c_law_moved hr (by decide) rfl (pa_cons (pv 1) (pa_cons (pv 5) (pa_cons (pv 6) (pa_cons (pv 12) pa_nil))))) (pa_cons (pv 4) pa_nil))))) (pa_cons (pv 15) pa_nil))))))))))))))), ?_⟩
    have B := k.msOk
    have TM : TurnedMs t w0 h0 (mirs kvs) (mirs (turnK t w0 h0 kvs)) := turn_mirs'
    have kT := k.turn (t := t)
    obtain ⟨cn, c1, c2⟩ := turn_count B TM
    obtain ⟨ln, l1, _⟩ := farLen_ok (frameOf_ok B) (unf s (pts s).1)
    have l2 := (law_len B TM s).trans l1
    obtain ⟨tb, t1, _⟩ := farTog_ok (frameOf_ok B) (unf s (pts s).1) (unf r (pts r).1)
    rw [← unf_rev] at t1
    have t2 := (law_tog B TM s r).trans t1
    have os := msq_on (t := t) o
    have or2 := msq_on (t := t) o2
    have n0 := Int.emod_nonneg n (b := 2) (by decide)
    have n2 := Int.emod_lt_of_pos n (b := 2) (by decide)
    have kp := pt_is s (n % 2)
    have hat := pt_at (s := s) n0 n2
    generalize ptAt s (n % 2) = p at kp hat
    obtain ⟨q, q', g1, g2, g3⟩ := law_go B TM kp hn
    have kp2 := mpt_isPt (t := t) (w := w0) (h := h0) kp
    refine rr_seq (run_asg (d := .tup [.int w0, .int h0]) (ev_var rfl) (by walk_at "tgt")) ?_
    refine rr_seq (run_asg (ev_turned (ev_var rfl) (ea_cons (ev_var rfl) ea_nil) (r_trn.mk way t w0 h0 kvs ht k)) eg_name) ?_
    refine rr_seq (run_asg (d := .lst [dP s, dP r]) (ev_var rfl) (eg_unl rfl (egs_cons eg_name (egs_cons eg_name egs_nil)))) ?_
    refine rr_seq (run_asg (ev_call (ds := [.str way, .int w0, .int h0, dP s]) (by walk_at "ev") (r_msq.mk way t w0 h0 s ht)) eg_name) ?_
    refine rr_seq (run_asg (ev_call (ds := [.str way, .int w0, .int h0, dP r]) (by walk_at "ev") (r_msq.mk way t w0 h0 r ht)) eg_name) ?_
    refine rr_skip (et_orF (et_is (b' := false) (et_test (ev_neI (ev_call (ds := [.brd (tw t w0 h0) (th t w0 h0) (turnK t w0 h0 kvs)]) (by walk_at "ev") (r_cnt.mk _ _ _ cn kT c2)) (ev_call (ds := [.brd w0 h0 kvs]) (by walk_at "ev") (r_cnt.mk _ _ _ cn k c1)))) (by rw [decide_eq_true rfl]; rfl)) rfl
      (et_is (b' := false) (et_test (ev_neI (ev_call (ds := [.brd (tw t w0 h0) (th t w0 h0) (turnK t w0 h0 kvs), dP (msq t w0 h0 s)]) (by walk_at "ev") (r_flen.mk _ _ _ _ (ln : Int) kT os l2)) (ev_call (ds := [.brd w0 h0 kvs, dP s]) (by walk_at "ev") (r_flen.mk _ _ _ _ (ln : Int) k o l1)))) (by rw [decide_eq_true rfl]; rfl))) rfl ?_
    refine rr_skip (et_not (et_test (ev_call (ds := [.bl tb, .bl tb]) (ea_cons (ev_call (ds := [.brd (tw t w0 h0) (th t w0 h0) (turnK t w0 h0 kvs), dP (msq t w0 h0 s), dP (msq t w0 h0 r)]) (by walk_at "ev") (r_tog.mk _ _ _ _ _ tb kT os or2 t2))
      (ea_cons (ev_call (ds := [.brd w0 h0 kvs, dP s, dP r]) (by walk_at "ev") (r_tog.mk _ _ _ _ _ tb k o o2 t1)) ea_nil)) (r_same.mk _ (sm_bl tb))))) rfl ?_
    refine rr_seq (run_asg (d := dP p) (ev_ix (ev_call (ds := [dP s]) (by walk_at "ev") (r_lpts.mk s)) (ev_mod (ev_int1 (ev_var rfl)) ev_cI (by decide)) rfl hat) eg_name) ?_
    refine rr_seq (run_asg (d := .tup [dP (located w0 h0 q).1, dP (located w0 h0 q).2]) (ev_call (ds := [.brd w0 h0 kvs, dP s, dP p, .int n]) (by walk_at "ev") (r_go.mk w0 h0 kvs s p n q k o kp hn g1)) (by walk_at "tgt")) ?_
    refine rr_seq (run_asg (d := .tup [dP (msq t w0 h0 (located w0 h0 q).1), dP (mpt t w0 h0 (located w0 h0 q).2)]) (ev_tup (ea_cons (ev_call (ds := [.str way, .int w0, .int h0, dP (located w0 h0 q).1]) (by walk_at "ev") (r_msq.mk way t w0 h0 _ ht)) (ea_cons (ev_call (ds := [.str way, .int w0, .int h0, dP (located w0 h0 q).2]) (by walk_at "ev") (r_mvd.mk way t w0 h0 _ ht)) ea_nil)) (Nat.le_of_ble_eq_true rfl)) eg_name) ?_
    refine rr_ret (ev_call (ds := [.tup [dP (msq t w0 h0 (located w0 h0 q).1), dP (mpt t w0 h0 (located w0 h0 q).2)], .tup [dP (msq t w0 h0 (located w0 h0 q).1), dP (mpt t w0 h0 (located w0 h0 q).2)]])
      (ea_cons (ev_is (ev_call (ds := [.brd (tw t w0 h0) (th t w0 h0) (turnK t w0 h0 kvs), dP (msq t w0 h0 s), dP (mpt t w0 h0 p), .int n]) (ea_cons (ev_var rfl) (ea_cons (ev_var rfl) (ea_cons (ev_call (ds := [.str way, .int w0, .int h0, dP p]) (by walk_at "ev") (r_mvd.mk way t w0 h0 p ht)) (ea_cons (ev_var rfl) ea_nil)))) (r_go.mk _ _ _ _ _ n q' kT os kp2 hn g2)) (by rw [g3])) (ea_cons (ev_var rfl) ea_nil)) (r_same.mk _ (sm_loc _ _))) rfl
end
end Sw
end
section
open PySem PySem.Spec PyProof.Rows L2 Sw Sd
local macro_rules | `(tactic| walk_at "ev") => `(tactic| first
  | with_reducible exact ev_cI
  | with_reducible exact ev_cS
  | with_reducible exact ev_cB
  | with_reducible exact ev_cN
  | with_reducible exact ea_nil
  | ((with_reducible apply ev_var); rfl)
  | ((with_reducible apply ea_cons); (· walk_at "ev"); (· walk_at "ev"))
  | ((with_reducible apply ev_add); (· walk_at "ev"); (· walk_at "ev"))
  | ((with_reducible apply ev_sub); (· walk_at "ev"); (· walk_at "ev"))
  | ((with_reducible apply ev_min2); (· walk_at "ev"); (· walk_at "ev"))
  | ((with_reducible apply ev_lt); (· walk_at "ev"); (· walk_at "ev"))
  | ((with_reducible apply ev_le); (· walk_at "ev"); (· walk_at "ev"))
  | ((with_reducible apply ev_gt); (· walk_at "ev"); (· walk_at "ev"))
  | ((with_reducible apply ev_ge); (· walk_at "ev"); (· walk_at "ev"))
  | ((with_reducible apply ev_eqI); (· walk_at "ev"); (· walk_at "ev"))
  | ((with_reducible apply ev_eqS); (· walk_at "ev"); (· walk_at "ev"))
  | ((with_reducible apply ev_eqB); (· walk_at "ev"); (· walk_at "ev"))
  | ((with_reducible apply ev_neI); (· walk_at "ev"); (· walk_at "ev"))
  | ((with_reducible apply ev_neg); (· walk_at "ev"))
  | ((with_reducible apply ev_isN); (· walk_at "ev"))
  | ((with_reducible apply ev_notN); (· walk_at "ev"))
  | ((with_reducible apply et_test); (· walk_at "ev"))
  | ((with_reducible apply et_B); (· walk_at "ev"))
  | ((with_reducible apply et_not); (· walk_at "ev"))
  | ((with_reducible apply ev_tup); (· walk_at "ev"); (· exact Nat.le_of_ble_eq_true rfl))
  | ((with_reducible apply ev_lst); (· walk_at "ev"); (· exact Nat.le_of_ble_eq_true rfl))
  | ((with_reducible apply ev_ix); (· walk_at "ev"); (· walk_at "ev"); (· rfl); (· rfl))
  | ((with_reducible apply ev_mulS); (· walk_at "ev"); (· walk_at "ev"); (· first | exact .inl ⟨by decide, by decide⟩ | exact .inr ⟨by decide, by decide⟩))
  | ((with_reducible apply ev_mulW); (· walk_at "ev"); (· walk_at "ev"); (· walk_at "sd"))
  | ((with_reducible apply ev_mod); (· walk_at "ev"); (· walk_at "ev"); (· walk_at "sd"))
  | ((with_reducible apply ev_div); (· walk_at "ev"); (· walk_at "ev"); (· walk_at "sd"))
  | ((with_reducible apply ev_prop); (· walk_at "ev"); (· walk_at "pr"))
  | ((with_reducible apply ev_chain); (· walk_at "ev"); (· walk_at "ev"); (· walk_at "ev"); (· exact r2_cmp); (· exact r2_cmp))
  | ((with_reducible apply ev_call); (· walk_at "ev"); (· walk_at "rel")))
local macro_rules | `(tactic| walk_at "sd") => `(tactic| first | assumption | decide | omega)
local macro_rules | `(tactic| walk_at "ret") => `(tactic| (apply rr_ret; (· walk_at "ev"); (try rfl)))
local macro_rules | `(tactic| walk_at "asg") => `(tactic| (apply run_asg; (· walk_at "ev"); (· walk_at "tgt")))
local macro_rules | `(tactic| walk_at "tgt") => `(tactic| first
  | with_reducible exact eg_name
  | ((apply eg_tup); (· rfl); (· walk_at "tgt"))
  | with_reducible exact egs_nil
  | ((with_reducible apply egs_cons); (· walk_at "tgt"); (· walk_at "tgt")))
local macro_rules | `(tactic| walk_at "set") => `(tactic| (apply rr_seq; (· walk_at "asg")))
local macro_rules | `(tactic| walk_at "par") => `(tactic| (apply rr_seq; (· apply run_par; walk_at "ev")))
local macro_rules | `(tactic| walk_at "asgE") => `(tactic| (apply run_eq; (· walk_at "asg"); (· rfl)))
local macro_rules | `(tactic| walk_at "parE") => `(tactic| (apply run_eq; (· apply run_par; walk_at "ev"); (· rfl)))
local macro_rules | `(tactic| walk_at "evr") => `(tactic| first | (apply et_is; (· walk_at "ev"); (· rfl)) | (apply ev_is; (· walk_at "ev"); (· rfl)))
local macro_rules | `(tactic| walk_at "drop") => `(tactic| (apply rr_seq; (· apply run_drop; walk_at "ev")))

namespace Sw
section
variable {C : Addr} {K : PySem.W.Frag} {g : TG} {e1 : Es} {o : Oc}
theorem run_forAt {W : Ends} {G1 H1 : Hp} {σ : St} {a : Addr} {vs : List V} {xs : List D} {body : TS} (s1 : SR C G1 H1 e1 σ) (ha : G1 a = some (.lst vs)) (rs : RpL C G1 xs vs) (k : LoopR C g body xs e1 o) (q : Out C W G1 H1 e1 σ o) : tFor (iList K (tC (.ref a))) g body W σ H1 := by
    refine ⟨a, rfl, ⟨vs, SqL.of (s1.gh _ _ ha)⟩, for_list (xs := vs) (fun i σ' H' => ∃ G' es', SR C G' H' es' σ' ∧ Rel G1 H1 e1 σ G' H' es' σ' ∧ LoopR C g body (xs.drop i) es' o) ⟨G1, e1, s1, Rel.refl, k⟩
      (fun i σ' H' _ ⟨G', es', s', l', _⟩ => SqL.of (s'.gh _ _ (l'.gx _ _ ha))) ?_ ?_⟩
    · rintro i x σ' H' hi ⟨G', es', s', l', k'⟩
      obtain ⟨d, hd, rd⟩ := rs.get' hi
      have ed : xs.drop i = d :: xs.drop (i + 1) := by
        obtain ⟨hlt, e⟩ := List.getElem?_eq_some_iff.mp hd
        rw [← e]
        exact List.drop_eq_getElem_cons hlt
      rw [ed] at k'
      obtain ⟨e2, hg, o1, hb, hm⟩ := k'
      refine hg G' H' σ' x _ s' (rd.mono l'.gx) fun σ2 s2 l2 => ?_
      have q1 := q.after (l'.trans l2)
      cases o1 with
      | nx e3 => exact hb _ G' H' σ2 s2 fun G3 H3 σ3 s3 l3 => ⟨G3, e3, s3, (l'.trans l2).trans l3, hm⟩
      | ct e3 => exact hb _ G' H' σ2 s2 fun G3 H3 σ3 s3 l3 => ⟨G3, e3, s3, (l'.trans l2).trans l3, hm⟩
      | bk e3 =>
        have hm : o = .nx e3 := hm
        subst hm
        exact hb _ G' H' σ2 s2 fun G3 H3 σ3 s3 l3 => q1 G3 H3 σ3 s3 l3
      | rt dd e3 =>
        have hm : o = .rt dd e3 := hm
        subst hm
        exact hb _ G' H' σ2 s2 fun v3 G3 H3 σ3 s3 l3 r3 => q1 v3 G3 H3 σ3 s3 l3 r3
    · rintro σ' H' ⟨G', es', s', l', k'⟩
      rw [rs.length, List.drop_length] at k'
      have k' : o = .nx es' := k'
      subst k'
      exact q G' H' σ' s' l'

end
open Sd
local macro_rules | `(tactic| walk_at "rel") => `(tactic| first
  | exact r_go.mk _ _ _ _ _ _ _ (by assumption) (by assumption) (by assumption) (by assumption) (by assumption)
  | exact r_tog.mk _ _ _ _ _ _ (by assumption) (by assumption) (by assumption) (by assumption)
  | exact r_cnt.mk _ _ _ _ (by assumption) (by assumption)
  | exact r_loc.mk _ _ _ _ (by assumption) (by assumption)
  | exact r_csq.mk _ _ _ _ (by assumption)
  | exact r_cway.mk _ _ _ _ _ (by assumption) (by assumption)
  | exact r_frm.mk _ _ _ (by assumption)
  | exact r_legs.mk _ (by assumption) _ _ _ (by assumption)
  | exact r_str.mk _ _ _ _ _ _ (by assumption) (by assumption) (by assumption) (by assumption)
  | exact r_flen.mk _ _ _ _ _ (by assumption) (by assumption) (by assumption)
  | exact r_steps.mk3 _ (by assumption) _ _ _ _ _
  | exact r_steps.mk2 _ (by assumption) _ _ _ _
  | exact r_tom.mk _ (by assumption) _ _
  | exact r_from.mk _ (by assumption) _ _ _ _ (by assumption)
  | exact r_behind.mk _ _ _ _
  | exact r_gcd.mk _ _ (by assumption) (by assumption) (by assumption) (by assumption)
  | exact r_cls.mk _ _ _ (by assumption)
  | exact r_fsq.mk _ _ (by assumption)
  | exact r_fpt.mk _ _ (by assumption)
  | exact r_pts.mk _ _
  | exact r_unf.mk _ _ _ _)
local macro_rules | `(tactic| walk_at "pr") => `(tactic| first
  | exact r_w.mk _ _ _
  | exact r_h.mk _ _ _
  | exact r_mirs.mk _ _ _ (by assumption))

def wayD : List D := [.str "quarter", .str "half", .str "back", .str "flip", .str "mirror", .str "cross", .str "anti", .str "same"]
theorem way_at {i : Int} (a : 0 ≤ i) (b : i < 8) : ∃ way t, WayT way t ∧ atI wayD i = some (.str way) := by
  have : i = 0 ∨ i = 1 ∨ i = 2 ∨ i = 3 ∨ i = 4 ∨ i = 5 ∨ i = 6 ∨ i = 7 := by omega
  rcases this with rfl | rfl | rfl | rfl | rfl | rfl | rfl | rfl
  · exact ⟨_, _, .quarter, rfl⟩
  · exact ⟨_, _, .half, rfl⟩
  · exact ⟨_, _, .back, rfl⟩
  · exact ⟨_, _, .flip, rfl⟩
  · exact ⟨_, _, .mirror, rfl⟩
  · exact ⟨_, _, .cross, rfl⟩
  · exact ⟨_, _, .anti, rfl⟩
  · exact ⟨_, _, .same, rfl⟩
abbrev lawEs (N : Int) (a1 a3 a4 : Sl) (W H : Int) (a7 a8 a9 a10 a11 a12 : Sl) : Es := [.no, a1, .oL [.int N], a3, a4, .p (.int W), .p (.int H), a7, a8, a9, a10, a11, a12, .no]
def sqP (N W H : Int) : P2 := (N % (2 * W), N / (2 * W) % (2 * H))
def sqN (N W H : Int) : Int := N / (2 * W) / (2 * H)
theorem sq_on {N W H : Int} (hW : 1 ≤ W) (hH : 1 ≤ H) : OnB W H (sqP N W H) :=
  ⟨Int.emod_nonneg _ (by omega), Int.emod_lt_of_pos _ (by omega), Int.emod_nonneg _ (by omega), Int.emod_lt_of_pos _ (by omega)⟩
section
variable {C : Addr} {a1 a3 a4 a7 a8 a9 a10 a11 a12 : Sl}
theorem sq_lc {N W H : Int} (hW : 1 ≤ W) (hH : 1 ≤ H) (wb : W < 2 ^ 110) (hb : H < 2 ^ 110) :
    LcR C (gName 13) (tTup (tCons (tCall (spM C r_pick) [] E0 (tCons (tVar 2) (tCons (tOp (rI CMul fun i j => .int (i * j)) (tC (.int 2)) (tVar 5)) tNil))) (tCons (tCall (spM C r_pick) [] E0 (tCons (tVar 2) (tCons (tOp (rI CMul fun i j => .int (i * j)) (tC (.int 2)) (tVar 6)) tNil))) tNil))) [13]
      ((List.range (2 : Int).toNat).map fun (i : Nat) => D.int (i : Int)) (lawEs N a1 a3 a4 W H a7 a8 a9 a10 a11 a12) [dP (sqP N W H), dP (sqP (sqN N W H) W H)] (lawEs (sqN (sqN N W H) W H) a1 a3 a4 W H a7 a8 a9 a10 a11 a12) := by
  have turn : ∀ (k : Int) (N : Int), EvM C (tTup (tCons (tCall (spM C r_pick) [] E0 (tCons (tVar 2) (tCons (tOp (rI CMul fun i j => .int (i * j)) (tC (.int 2)) (tVar 5)) tNil))) (tCons (tCall (spM C r_pick) [] E0 (tCons (tVar 2) (tCons (tOp (rI CMul fun i j => .int (i * j)) (tC (.int 2)) (tVar 6)) tNil))) tNil)))
      ((lawEs N a1 a3 a4 W H a7 a8 a9 a10 a11 a12).set 13 (.p (.int k))) (dP (sqP N W H)) ((lawEs (sqN N W H) a1 a3 a4 W H a7 a8 a9 a10 a11 a12).set 13 (.p (.int k))) := fun k N =>
    ev_tup (ea_cons (ev_callM (i := 2) rfl (.o N (N / (2 * W))) (ea_cons (ev_mulS ev_cI (ev_var rfl) (.inl ⟨by decide, by decide⟩)) ea_nil) (.mk N (2 * W) (by omega) (by omega)))
      (ea_cons (ev_callM (i := 2) rfl (.o (N / (2 * W)) (N / (2 * W) / (2 * H))) (ea_cons (ev_mulS ev_cI (ev_var rfl) (.inl ⟨by decide, by decide⟩)) ea_nil) (.mk (N / (2 * W)) (2 * H) (by omega) (by omega))) ea_nil)) (Nat.le_of_ble_eq_true rfl)
  have off : ∀ (N k : Int) (i : Nat), i ∉ [13] → (lawEs N a1 a3 a4 W H a7 a8 a9 a10 a11 a12)[i]? = ((lawEs N a1 a3 a4 W H a7 a8 a9 a10 a11 a12).set 13 (.p (.int k)))[i]? := fun N k i hi => by
    rw [List.getElem?_set_ne (fun e => hi (by rw [← e]; exact List.mem_singleton.mpr rfl))]
  exact ⟨_, _, _, lawEs (sqN N W H) a1 a3 a4 W H a7 a8 a9 a10 a11 a12, _, egw_name (by decide), turn 0 N, rfl, no1 rfl, rfl, off _ _, _, _, _, lawEs (sqN (sqN N W H) W H) a1 a3 a4 W H a7 a8 a9 a10 a11 a12, _, egw_name (by decide), turn 1 (sqN N W H), rfl, no1 rfl, rfl, off _ _, rfl, rfl⟩
theorem open_for {K : PySem.W.Frag} {te1 te2 : TE} {g : TG} {body u : TS} {W : Ends} {σ : L2.St} {H : Hp} (h : te1 σ H fun x H1 => te2 σ H1 fun y H2 => rCat x y H2 fun z H3 => tFor (iList K (tC z)) g body { W with nx := u W } σ H3) : tSeq (tFor (iList K (tOp rCat te1 te2)) g body) u W σ H := h
theorem run_forInv {K : PySem.W.Frag} {g : TG} {body : TS} {W : Ends} {G1 H1 : Hp} {σ : L2.St} {a : Addr} {es : Es} {vs : List V} {cells : List Int} {Inv : Es → Prop} (s1 : SR C G1 H1 es σ) (ha : G1 a = some (.lst vs)) (rs : RpL C G1 (cells.map D.int) vs)
    (q : ∀ σ' H', W.nx σ' H') (i : Inv es) (h : ∀ a ∈ cells, ∀ e, Inv e → ∃ e1, EvG C g (.int a) e e1 ∧ RunE C body e1 Inv) : tFor (iList K (tC (.ref a))) g body W σ H1 := by
  obtain ⟨e', k, _⟩ := loop_inv (enc := D.int) h es i
  exact run_forAt s1 ha rs k fun G' H' σ' _ _ => q σ' H'
end
/-- the law's promise -/
def spL (K : PySem.W.Frag) : Sp := fun vs H Q _ => ∃ (a : Addr) (ns : List Int), vs = [.ref a] ∧ SqL K H a (ns.map V.int) ∧ ∀ H', Q (.bl true) H'
section
variable {P : Program} {w : World} {K : PySem.W.Frag} {mg : Str → Option Value} {base : Heap} {C : Addr}
theorem ok_law {f : Addr} {fd : FuncData} (F : Hk.Fn K "law" "law" s_law f fd) (T : Txt K mg C) (c_law_well : CallOk P w K mg base "_law_well" 1 ["_law_cell", "_law_salt"] (spW C r_well)) (c_law_pick : CallOk P w K mg base "_law_pick" 1 ["_law_well_here", "_law_many"] (spM C r_pick))
    (c_law_side : CallOk P w K mg base "_law_side" 2 ["_law_well_here"] (spM C r_side)) (c_law_far : CallOk P w K mg base "_law_far" 3 ["_law_well_here", "_law_most"] (spM C r_far)) (c_law_mirrors : CallOk P w K mg base "_law_mirrors" 1 ["_law_kinds"] (spP C r_lms))
    (c_init : MakeOk P w K mg base C 4 ["self", "width", "height", "mirrors"] (spI C r_init)) (c_law_bare : CallOk P w K mg base "_law_bare" 7 ["_law_board", "_law_wide", "_law_high", "_law_squares", "_law_many"] (spP C r_bare))
    (c_law_turned : CallOk P w K mg base "_law_turned" 7 ["_law_board", "_law_way", "_law_sides", "_law_squares", "_law_steps"] (spP C r_ltrn)) : FnOk P w K mg base CX0 8 f fd ["_law_script"] (spL K) := by
  refine F.ok sc_law (fun vs H Q E ⟨a, ns, e, _⟩ => by rw [e]; rfl) fun cdv A outer s H vs Q E hr ⟨a, ns, e, hS, q⟩ => ?_
  subst e
  refine ⟨_, ((pss_cons (ps_for PassesOwn.never rfl (pi_list (pe_op op_cat (pe_lst (pa_cons (pe_op op_add (pe_op op_pow pe_int pe_int) pe_int) pa_nil)) (pe_slice sl_list (pv 0) po_none (po_some pe_int)))) (pg_name (i := 1) sc_law.nd rfl (Or.inl rfl))
      (pss_cons (ps_set (i := 2) sc_law.nd rfl (Or.inr rfl) (pe_callC c_law_well hr (by decide) rfl (pa_cons (pv 1) (pa_cons pe_int pa_nil))))
      (pss_cons (ps_set (i := 3) sc_law.nd rfl (Or.inl rfl) (pe_ix ix_seq (pe_lst (pa_cons pe_str (pa_cons pe_str (pa_cons pe_str (pa_cons pe_str (pa_cons pe_str (pa_cons pe_str (pa_cons pe_str (pa_cons pe_str pa_nil))))))))) (pe_callC c_law_pick hr (by decide) rfl (pa_cons (pv 2) (pa_cons pe_int pa_nil))) (fun _ _ => rfl)))
      (pss_cons (ps_set (i := 4) sc_law.nd rfl (Or.inl rfl) (pe_callC c_law_pick hr (by decide) rfl (pa_cons (pv 2) (pa_cons pe_int pa_nil))))
      (pss_cons (ps_asg (pe_callC c_law_side hr (by decide) rfl (pa_cons (pv 2) pa_nil)) (pg_tup rfl (pgs_cons (pg_name (i := 5) sc_law.nd rfl (Or.inr rfl)) (pgs_cons (pg_name (i := 6) sc_law.nd rfl (Or.inr rfl)) pgs_nil))))
      (pss_cons (ps_setLc (i := 7) (own := [("_law_k", 13)]) (g := (gName 13)) (tt := tYes) rfl sc_law.nd rfl rfl (sw_true rfl rfl rfl (by decide +kernel)) (pi_range1 rfl T.b_range (pa_cons pe_int pa_nil)) (blkOk_by (own := [("_law_k", 13)]) (N := N_law) (sc := defScope s_law) (by decide +kernel)) (fun _ _ _ _ _ => (pg_name (i := 13) sc_law.nd rfl (Or.inl rfl))) (fun _ _ _ _ _ => pts_nil) (fun _ _ _ _ _ => (pe_tup (pa_cons (pe_callC c_law_pick hr (by decide) rfl (pa_cons (pv 2) (pa_cons (pe_op op_mul pe_int (pv 5)) pa_nil))) (pa_cons (pe_callC c_law_pick hr (by decide) rfl (pa_cons (pv 2) (pa_cons (pe_op op_mul pe_int (pv 6)) pa_nil))) pa_nil)))))
      (pss_cons (ps_set (i := 8) sc_law.nd rfl (Or.inl rfl) (pe_makeC T c_init hr (by decide) rfl (pa_cons (pv 5) (pa_cons (pv 6) (pa_cons (pe_lst pa_nil) pa_nil)))))
      (pss_cons (ps_set (i := 9) sc_law.nd rfl (Or.inl rfl) (pe_tup (pa_cons (pv 5) (pa_cons (pv 6) pa_nil))))
      (pss_cons (ps_asg (pe_callC c_law_far hr (by decide) rfl (pa_cons (pv 2) (pa_cons pe_int pa_nil))) (pg_tup rfl (pgs_cons (pg_name (i := 5) sc_law.nd rfl (Or.inr rfl)) (pgs_cons (pg_name (i := 6) sc_law.nd rfl (Or.inr rfl)) (pgs_cons (pg_name (i := 10) sc_law.nd rfl (Or.inl rfl)) pgs_nil)))))
      (pss_cons (ps_setLc (i := 11) (own := [("_law_k", 13)]) (g := (gName 13)) (tt := tYes) rfl sc_law.nd rfl rfl (sw_true rfl rfl rfl (by decide +kernel)) (pi_range1 rfl T.b_range (pa_cons pe_int pa_nil)) (blkOk_by (own := [("_law_k", 13)]) (N := N_law) (sc := defScope s_law) (by decide +kernel)) (fun _ _ _ _ _ => (pg_name (i := 13) sc_law.nd rfl (Or.inl rfl))) (fun _ _ _ _ _ => pts_nil) (fun _ _ _ _ _ => (pe_tup (pa_cons (pe_callC c_law_pick hr (by decide) rfl (pa_cons (pv 2) (pa_cons (pe_op op_mul pe_int (pv 5)) pa_nil))) (pa_cons (pe_callC c_law_pick hr (by decide) rfl (pa_cons (pv 2) (pa_cons (pe_op op_mul pe_int (pv 6)) pa_nil))) pa_nil)))))
      (pss_cons (ps_set (i := 12) sc_law.nd rfl (Or.inl rfl) (pe_lst (pa_cons pe_int (pa_cons pe_int (pa_cons (pe_callC c_law_pick hr (by decide) rfl (pa_cons (pv 2) (pa_cons (pe_op op_pow pe_int pe_int) pa_nil))) (pa_cons (pv 4) pa_nil))))))
      (pss_cons (ps_if (pt_not (pt_val (pe_callC c_law_bare hr (by decide) rfl (pa_cons (pv 8) (pa_cons (pe_ix ix_seq (pv 9) pe_int (fun _ _ => rfl)) (pa_cons (pe_ix ix_seq (pv 9) pe_int (fun _ _ => rfl)) (pa_cons (pv 7) (pa_cons (pv 12) pa_nil)))))))) (pss_one (ps_ret pe_bl)) pss_nil)
      (pss_one (ps_if (pt_not (pt_val (pe_callC c_law_turned hr (by decide) rfl (pa_cons (pe_makeC T c_init hr (by decide) rfl (pa_cons (pv 5) (pa_cons (pv 6) (pa_cons (pe_callC c_law_mirrors hr (by decide) rfl (pa_cons (pv 10) pa_nil)) pa_nil)))) (pa_cons (pv 3) (pa_cons (pe_tup (pa_cons (pv 5) (pa_cons (pv 6) pa_nil))) (pa_cons (pv 11) (pa_cons (pe_ix ix_seq (pv 12) pe_int (fun _ _ => rfl)) pa_nil)))))))) (pss_one (ps_ret pe_bl)) pss_nil))))))))))))))
      (pss_one (ps_ret pe_bl))) : PSs (cxOf CX0 P w K mg base N_law "law" (defScope s_law) f cdv A outer s H E).nox (defBody s_law) _).nox, ?_⟩
  generalize eσ : L2.start N_law [V.ref a] = σ
  have eσ : [some (V.ref a), none, none, none, none, none, none, none, none, none, none, none, none, none] = σ := eσ
  have v0 : σ[0]? = some (some (V.ref a)) := by rw [← eσ]; rfl
  have allno : ∀ (G H : Hp), Ex G H → SR C G H [.no, .no, .no, .no, .no, .no, .no, .no, .no, .no, .no, .no, .no, .no] σ := fun G H gh => by
    have isno : ∀ (i : Nat) (s : Sl), ([.no, .no, .no, .no, .no, .no, .no, .no, .no, .no, .no, .no, .no, .no] : Es)[i]? = some s → s = .no := fun i s e => by
      have := List.mem_of_getElem? e
      simpa using this
    refine ⟨gh, by rw [← eσ]; rfl, fun i s e => ?_, fun i j sa sb b q1 q2 o1 o2 q3 q4 => by rw [isno i sa q1] at o1; cases o1⟩
    have hi : i < σ.length := by rw [← eσ]; exact (List.getElem?_eq_some_iff.mp e).1
    rw [isno i s e]
    exact ⟨_, List.getElem?_eq_getElem hi, trivial⟩
  have p18 : CPow 10 18 := ⟨by decide, by decide, by decide⟩
  have p60 : CPow 10 60 := ⟨by decide, by decide, by decide⟩
  have hlst : EvM C (tLst (tCons (tOp (rI0 fun i j => .int (i + j)) (tOp (rI CPow fun i j => .int (i ^ j.toNat)) (tC (.int 10)) (tC (.int 18))) (tC (.int 1170706337953224))) tNil)) _ (.lst [.int ((10 : Int) ^ (18 : Int).toNat + 1170706337953224)]) _ := ev_lst (es := [.no, .no, .no, .no, .no, .no, .no, .no, .no, .no, .no, .no, .no, .no]) (ea_cons (ev_add (ev_pow ev_cI ev_cI p18) ev_cI) ea_nil) (Nat.le_of_ble_eq_true rfl)
  refine open_for ?_
  refine hlst (fun _ => none) H σ _ (allno _ _ (fun _ _ e => by cases e)) fun v G1 H1 s1 l1 rv => ?_
  simp only [Rp, RpL] at rv
  obtain ⟨b1, vs1, rfl, g1, _, _, rfl, rfl, rfl⟩ := rv
  have hS1 : SqL K H1 a (ns.map V.int) := by
    have no : ¬ Ow [.no, .no, .no, .no, .no, .no, .no, .no, .no, .no, .no, .no, .no, .no] σ a := not_own fun i s e => by
      have := List.mem_of_getElem? e
      have : s = .no := by simpa using this
      rw [this]; rfl
    rcases hS with (h | ⟨o, h⟩) | h
    · exact .inl (.inl ((l1.kp a rfl (by rw [h]; exact Option.some_ne_none _) no).1.trans h))
    · exact .inl (.inr ⟨o, (l1.kp a rfl (by rw [h]; exact Option.some_ne_none _) no).1.trans h⟩)
    · exact .inr h
  have hcut : cutV (ns.map V.int) none (some 2) = (ns.take 2).map V.int := by
    unfold cutV
    rw [HT.sIx_none, show (2 : Int) = ((2 : Nat) : Int) from rfl, HT.sIx_nat, List.drop_zero, Nat.sub_zero, ← List.map_take]
    congr 1
    rw [List.length_map]
    rcases Nat.le_total 2 ns.length with c | c
    · rw [Nat.min_eq_left c]
    · rw [Nat.min_eq_right c, List.take_of_length_le (Nat.le_refl _), List.take_of_length_le c]
  refine ⟨_, v0, 2, rfl, a, _, rfl, hS1, fun p2 hp2 => ⟨b1, p2, [V.int ((10 : Int) ^ (18 : Int).toNat + 1170706337953224)], _, rfl, rfl, ?_, upd_same, ?_, fun p hp => ?_⟩⟩
  · rw [upd_ne (ne_of_none (s1.gh _ _ g1) hp2)]; exact s1.gh _ _ g1
  · rw [hcut, List.length_map]
    exact Nat.le_trans (Nat.add_le_add_left (List.length_take_le 2 ns) 1) (by decide)
  rw [hcut]
  refine run_forInv (a := p) (cells := ((10 : Int) ^ (18 : Int).toNat + 1170706337953224) :: ns.take 2) (G1 := upd (fun _ => none) p (.lst ([V.int ((10 : Int) ^ (18 : Int).toNat + 1170706337953224)] ++ (ns.take 2).map V.int))) (es := [.no, .no, .no, .no, .no, .no, .no, .no, .no, .no, .no, .no, .no, .no])
    (Inv := fun e => ∃ x1 x2 x3 x4 x5 x6 x7 x8 x9 x10 x11 x12, e = [.no, x1, x2, x3, x4, x5, x6, x7, x8, x9, x10, x11, x12, .no]) (allno _ _ fun b u e => ?_) upd_same (RpL.ints.mpr rfl) (fun _ H' => q H') ⟨_, _, _, _, _, _, _, _, _, _, _, _, rfl⟩ ?_
  · by_cases c : b = p
    · subst c; rw [upd_same] at e ⊢; exact e
    · rw [upd_ne c] at e; cases e
  rintro cell _ e ⟨x1, x2, x3, x4, x5, x6, x7, x8, x9, x10, x11, x12, rfl⟩
  refine ⟨_, eg_name, ?_⟩
  generalize hN : wellN cell = N
  have n8 := Int.emod_nonneg N (b := 8) (by decide)
  have n8' := Int.emod_lt_of_pos N (b := 8) (by decide)
  obtain ⟨way, t, ht, hway⟩ := way_at n8 n8'
  obtain ⟨w1, wb, h1, hb⟩ := side_b (N / 8 / 50)
  have k0 : KvOk (sideF (N / 8 / 50)).a (sideF (N / 8 / 50)).b [] := (far_start (n := 0)).ok.kv w1 h1 wb hb (Nat.zero_le _)
  refine re_seq (run_well (i := 2) (N := N) (ds := [.int cell, .int 95]) (by walk_at "ev") (by rw [← hN]; exact r_well.mk cell)) ?_
  refine re_seq (run_asg (d := .str way) (ev_ix (ev_lst (ds := wayD) (ea_cons ev_cS (ea_cons ev_cS (ea_cons ev_cS (ea_cons ev_cS (ea_cons ev_cS (ea_cons ev_cS (ea_cons ev_cS (ea_cons ev_cS ea_nil)))))))) (Nat.le_of_ble_eq_true rfl)) (ev_callM (i := 2) rfl (.o N (N / 8)) (ea_cons ev_cI ea_nil) (.mk N 8 (by decide) (by decide))) rfl hway) eg_name) ?_
  refine re_seq (run_asg (ev_callM (i := 2) rfl (.o (N / 8) (N / 8 / 50)) (ea_cons ev_cI ea_nil) (.mk (N / 8) 50 (by decide) (by decide))) eg_name) ?_
  have near0 := Int.emod_nonneg (N / 8) (b := 50) (by decide)
  generalize N / 8 % 50 = near at near0 ⊢
  generalize N / 8 / 50 = M at w1 wb h1 hb k0 ⊢
  refine re_seq (e1 := lawEs (sideF M).n (.p (.int cell)) (.p (.str way)) (.p (.int near)) (sideF M).a (sideF M).b x7 x8 x9 x10 x11 x12) (run_eq (run_asg (d := .tup [.int (sideF M).a, .int (sideF M).b]) (ev_callM (i := 2) rfl (.o M (sideF M).n) ea_nil (.mk M)) (eg_tup rfl (egs_cons eg_name (egs_cons eg_name egs_nil)))) rfl) ?_
  generalize (sideF M).n = M2
  generalize (sideF M).a = W at w1 wb k0 ⊢
  generalize (sideF M).b = Hh at h1 hb k0 ⊢
  have o1 := sq_on (N := M2) w1 h1
  have o2 := sq_on (N := sqN M2 W Hh) w1 h1
  refine re_seq (e1 := lawEs (sqN (sqN M2 W Hh) W Hh) (.p (.int cell)) (.p (.str way)) (.p (.int near)) W Hh (.p (.lst [dP (sqP M2 W Hh), dP (sqP (sqN M2 W Hh) W Hh)])) x8 x9 x10 x11 x12) (run_eq (run_asg (ev_lcR (m := 2) (ea_cons ev_cI ea_nil) (by decide) (by decide) (no1 rfl) (sq_lc w1 h1 wb hb) (no1 rfl) (small_line (Nat.le_of_ble_eq_true rfl))) eg_name) rfl) ?_
  generalize sqN (sqN M2 W Hh) W Hh = M3
  generalize sqP M2 W Hh = s1' at o1 ⊢
  generalize sqP (sqN M2 W Hh) W Hh = s2' at o2 ⊢
  refine re_seq (run_asg (ev_make (ds := [.int W, .int Hh, .lst []]) (ea_cons (ev_var rfl) (ea_cons (ev_var rfl) (ea_cons (ev_lst ea_nil (Nat.le_of_ble_eq_true rfl)) ea_nil))) (r_init.mk W Hh [] k0)) eg_name) ?_
  refine re_seq (run_asg (d := .tup [.int W, .int Hh]) (by walk_at "ev") eg_name) ?_
  have kF := far_kv M3
  obtain ⟨fw1, fwb, fh1, fhb⟩ := far_b M3
  refine re_seq (e1 := lawEs (farE M3).n (.p (.int cell)) (.p (.str way)) (.p (.int near)) (farW M3) (farH M3) (.p (.lst [dP s1', dP s2'])) (.p (.brd W Hh [])) (.p (.tup [.int W, .int Hh])) (.p (.dic (farE M3).kvs)) x11 x12) (run_eq (run_asg (d := .tup [.int (farW M3), .int (farH M3), .dic (farE M3).kvs]) (ev_callM (i := 2) rfl (.o M3 (farE M3).n) (ea_cons ev_cI ea_nil) (.mk M3)) (eg_tup rfl (egs_cons eg_name (egs_cons eg_name (egs_cons eg_name egs_nil))))) rfl) ?_
  generalize (farE M3).n = M4
  generalize (farE M3).kvs = kvs at kF ⊢
  generalize farW M3 = FW at fw1 fwb kF ⊢
  generalize farH M3 = FH at fh1 fhb kF ⊢
  have o3 := sq_on (N := M4) fw1 fh1
  have o4 := sq_on (N := sqN M4 FW FH) fw1 fh1
  refine re_seq (e1 := lawEs (sqN (sqN M4 FW FH) FW FH) (.p (.int cell)) (.p (.str way)) (.p (.int near)) FW FH (.p (.lst [dP s1', dP s2'])) (.p (.brd W Hh [])) (.p (.tup [.int W, .int Hh])) (.p (.dic kvs)) (.p (.lst [dP (sqP M4 FW FH), dP (sqP (sqN M4 FW FH) FW FH)])) x12) (run_eq (run_asg (ev_lcR (m := 2) (ea_cons ev_cI ea_nil) (by decide) (by decide) (no1 rfl) (sq_lc fw1 fh1 fwb fhb) (no1 rfl) (small_line (Nat.le_of_ble_eq_true rfl))) eg_name) rfl) ?_
  generalize sqN (sqN M4 FW FH) FW FH = M5
  generalize sqP M4 FW FH = s3' at o3 ⊢
  generalize sqP (sqN M4 FW FH) FW FH = s4' at o4 ⊢
  have big0 := Int.emod_nonneg M5 (b := (10 : Int) ^ (60 : Int).toNat) (by decide)
  refine re_seq (e1 := lawEs (M5 / (10 : Int) ^ (60 : Int).toNat) (.p (.int cell)) (.p (.str way)) (.p (.int near)) FW FH (.p (.lst [dP s1', dP s2'])) (.p (.brd W Hh [])) (.p (.tup [.int W, .int Hh])) (.p (.dic kvs)) (.p (.lst [dP s3', dP s4'])) (.p (.lst [.int 0, .int 1, .int (M5 % (10 : Int) ^ (60 : Int).toNat), .int near])))
    (run_eq (run_asg (ev_lst (ea_cons ev_cI (ea_cons ev_cI (ea_cons (ev_callM (i := 2) rfl (.o M5 (M5 / (10 : Int) ^ (60 : Int).toNat)) (ea_cons (ev_pow ev_cI ev_cI p60) ea_nil) (.mk M5 ((10 : Int) ^ (60 : Int).toNat) (by decide) (by decide))) (ea_cons (ev_var rfl) ea_nil)))) (Nat.le_of_ble_eq_true rfl)) eg_name) rfl) ?_
  generalize M5 / (10 : Int) ^ (60 : Int).toNat = M6
  generalize M5 % (10 : Int) ^ (60 : Int).toNat = big at big0 ⊢
  have hmany : ∀ n ∈ [0, 1, big, near], 0 ≤ n := fun n hn => by
    simp only [List.mem_cons, List.not_mem_nil, or_false] at hn
    rcases hn with rfl | rfl | rfl | rfl <;> omega
  refine re_skip (et_not (et_test (ev_call (ds := [.brd W Hh [], .int W, .int Hh, .lst [dP s1', dP s2'], .lst ([0, 1, big, near].map D.int)]) (ea_cons (ev_var rfl) (ea_cons (ev_ix (ev_var rfl) ev_cI rfl rfl) (ea_cons (ev_ix (ev_var rfl) ev_cI rfl rfl) (ea_cons (ev_var rfl) (ea_cons (ev_var rfl) ea_nil))))) (r_bare.mk W Hh s1' s2' _ k0 o1 o2 hmany)))) rfl ?_
  refine re_last (et_not (et_test (ev_call (ds := [.brd FW FH kvs, .str way, .tup [.int FW, .int FH], .lst [dP s3', dP s4'], .int big]) (ea_cons (ev_make (ds := [.int FW, .int FH, .lst (kvs.map encT)]) (ea_cons (ev_var rfl) (ea_cons (ev_var rfl) (ea_cons (ev_call (ds := [.dic kvs]) (by walk_at "ev") (r_lms.mk kvs kF.nd kF.ln)) ea_nil))) (r_init.mk FW FH kvs kF))
    (ea_cons (ev_var rfl) (ea_cons (by walk_at "ev") (ea_cons (ev_var rfl) (ea_cons (ev_ix (ev_var rfl) ev_cI rfl rfl) ea_nil))))) (r_ltrn.mk FW FH kvs way t s3' s4' big kF ht o3 o4 big0)))) rfl ?_
  exact ⟨_, _, _, _, _, _, _, _, _, _, _, _, rfl⟩
end
end Sw
end
section
/-! ### what the head says -/
namespace Sw
open PySem PySem.Spec PyProof.Rows L2 He Hk
section
variable {K : PySem.W.Frag} {h : Heap} {mg : Str → Option Value}
theorem df_of (X : K.In h) (G : h.Ns mainGlobals mg) (c : Hk.Says faL fnL exB K) (i j : Nat) {x : Str} {st : Stmt} (hd : fnL[i]? = some ⟨fun K => ga K x, x, x, st⟩) (hf : faL[j]? = some (.glo x)) : Df K mg x st := by
  obtain ⟨fd, F⟩ := c.def_ i hd
  exact ⟨_, fd, F, glo_ok X G (c.fact (List.mem_of_getElem? hf))⟩
theorem fat (c : Hk.Says faL fnL exB K) (j : Nat) {f : Fa} (hf : faL[j]? = some f) : f.ok K = true := c.fact (List.mem_of_getElem? hf)

theorem txt_of (X : K.In h) (G : h.Ns mainGlobals mg) (c : Hk.Says faL fnL exB K) : Txt K mg (ga K "Board") := by
  obtain ⟨e1, e⟩ := ba c.more
  obtain ⟨e2, e⟩ := ba e
  obtain ⟨e3, e⟩ := ba e
  exact {
    cl := cls_ok (fat c 42 rfl)
    nW := noat_ok (fat c 43 rfl)
    nH := noat_ok (fat c 44 rfl)
    nK := noat_ok (fat c 45 rfl)
    mB := glo_ok X G (fat c 41 rfl)
    mKINDS := glo_ok X G (fat c 48 rfl)
    mWAYS := glo_ok X G (fat c 49 rfl)
    mEXCHANGING := glo_ok X G (fat c 50 rfl)
    tK := fun H => tupB_ok e1 H
    tW := fun H => tupB_ok e2 H
    tE := fun H => tupB_ok e3 H
    b_isinstance := free_ok X G (fat c 51 rfl)
    b_len := free_ok X G (fat c 52 rfl)
    b_min := free_ok X G (fat c 53 rfl)
    b_range := free_ok X G (fat c 54 rfl)
    b_sum := free_ok X G (fat c 55 rfl)
    b_sorted := free_ok X G (fat c 56 rfl)
    b_all := free_ok X G (fat c 57 rfl)
    b_int := free_ok X G (fat c 58 rfl)
    b_bool := free_ok X G (fat c 59 rfl)
    b_str := free_ok X G (fat c 60 rfl)
    b_list := free_ok X G (fat c 61 rfl)
    b_tuple := free_ok X G (fat c 62 rfl) }
theorem dfP_of (c : Hk.Says faL fnL exB K) (i : Nat) {x qual : Str} {st : Stmt} (hp : prB K "Board" x = true) (hd : fnL[i]? = some ⟨fun K => prG K "Board" x, x, qual, st⟩) : DfP K (ga K "Board") x qual st := by
  obtain ⟨fd, F⟩ := c.def_ i hd
  exact ⟨_, _, fd, prB_ok hp, F⟩
variable {P : Program} {w : World} {base : Heap} {f : Addr}
theorem law_ok (X : K.In h) (G : h.Ns mainGlobals mg) (c : Hk.Says faL fnL exB K) {fd : FuncData} (F : Hk.Fn K "law" "law" s_law f fd) : FnOk P w K mg base CX0 8 f fd ["_law_script"] (spL K) := by
  have T := txt_of X G c
  obtain ⟨_, e⟩ := ba c.more
  obtain ⟨_, e⟩ := ba e
  obtain ⟨_, e⟩ := ba e
  obtain ⟨p1, e⟩ := ba e
  obtain ⟨p2, p3⟩ := ba e
  have d_divisor_and_factor : Df K mg "divisor_and_factor" s_divisor_and_factor := df_of X G c 0 0 rfl rfl
  have d_frame_of : Df K mg "frame_of" s_frame_of := df_of X G c 1 1 rfl rfl
  have d_steps_to : Df K mg "steps_to" s_steps_to := df_of X G c 2 2 rfl rfl
  have d_to_mirror : Df K mg "to_mirror" s_to_mirror := df_of X G c 3 3 rfl rfl
  have d_from_mirror : Df K mg "from_mirror" s_from_mirror := df_of X G c 4 4 rfl rfl
  have d_behind_mirror : Df K mg "behind_mirror" s_behind_mirror := df_of X G c 5 5 rfl rfl
  have d_folded_square : Df K mg "folded_square" s_folded_square := df_of X G c 6 6 rfl rfl
  have d_folded_point : Df K mg "folded_point" s_folded_point := df_of X G c 7 7 rfl rfl
  have d_located : Df K mg "located" s_located := df_of X G c 8 8 rfl rfl
  have d_points_of : Df K mg "points_of" s_points_of := df_of X G c 9 9 rfl rfl
  have d_unfolded : Df K mg "unfolded" s_unfolded := df_of X G c 10 10 rfl rfl
  have d_check_square : Df K mg "check_square" s_check_square := df_of X G c 11 11 rfl rfl
  have d_check_way : Df K mg "check_way" s_check_way := df_of X G c 12 12 rfl rfl
  have d_next_mirror : Df K mg "next_mirror" s_next_mirror := df_of X G c 13 13 rfl rfl
  have d_legs : Df K mg "legs" s_legs := df_of X G c 14 14 rfl rfl
  have d_stretches : Df K mg "stretches" s_stretches := df_of X G c 15 15 rfl rfl
  have d_far_length : Df K mg "far_length" s_far_length := df_of X G c 16 16 rfl rfl
  have d_go_on : Df K mg "go_on" s_go_on := df_of X G c 17 17 rfl rfl
  have d_thread_class : Df K mg "thread_class" s_thread_class := df_of X G c 18 18 rfl rfl
  have d_far_together : Df K mg "far_together" s_far_together := df_of X G c 19 19 rfl rfl
  have d_far_count : Df K mg "far_count" s_far_count := df_of X G c 20 20 rfl rfl
  have d_is_inside : Df K mg "is_inside" s_is_inside := df_of X G c 21 21 rfl rfl
  have d_check_mirror : Df K mg "check_mirror" s_check_mirror := df_of X G c 22 22 rfl rfl
  have d_kinds_of : Df K mg "kinds_of" s_kinds_of := df_of X G c 23 23 rfl rfl
  have d_other_kind : Df K mg "other_kind" s_other_kind := df_of X G c 24 24 rfl rfl
  have d_moved_place : Df K mg "moved_place" s_moved_place := df_of X G c 25 25 rfl rfl
  have d_law_well : Df K mg "_law_well" s_law_well := df_of X G c 31 26 rfl rfl
  have d_law_pick : Df K mg "_law_pick" s_law_pick := df_of X G c 32 27 rfl rfl
  have d_law_same : Df K mg "_law_same" s_law_same := df_of X G c 33 28 rfl rfl
  have d_law_side : Df K mg "_law_side" s_law_side := df_of X G c 34 29 rfl rfl
  have d_law_far : Df K mg "_law_far" s_law_far := df_of X G c 35 30 rfl rfl
  have d_law_mirrors : Df K mg "_law_mirrors" s_law_mirrors := df_of X G c 36 31 rfl rfl
  have d_law_points : Df K mg "_law_points" s_law_points := df_of X G c 37 32 rfl rfl
  have d_law_divisor : Df K mg "_law_divisor" s_law_divisor := df_of X G c 38 33 rfl rfl
  have d_law_unfolded : Df K mg "_law_unfolded" s_law_unfolded := df_of X G c 39 34 rfl rfl
  have d_law_bare_step : Df K mg "_law_bare_step" s_law_bare_step := df_of X G c 40 35 rfl rfl
  have d_law_bare : Df K mg "_law_bare" s_law_bare := df_of X G c 41 36 rfl rfl
  have d_law_moved : Df K mg "_law_moved" s_law_moved := df_of X G c 42 37 rfl rfl
  have d_law_moved_square : Df K mg "_law_moved_square" s_law_moved_square := df_of X G c 43 38 rfl rfl
  have d_law_turned : Df K mg "_law_turned" s_law_turned := df_of X G c 44 39 rfl rfl
  have d_width : DfP K (ga K "Board") "width" "Board.width" s_Board_width := dfP_of c 27 p1 rfl
  have d_height : DfP K (ga K "Board") "height" "Board.height" s_Board_height := dfP_of c 28 p2 rfl
  have d_mirrors : DfP K (ga K "Board") "mirrors" "Board.mirrors" s_Board_mirrors := dfP_of c 29 p3 rfl
  have d_init : DfI K (ga K "Board") "__init__" "Board.__init__" s_Board_init := by
    obtain ⟨fd, F⟩ := c.def_ 26 (d := ⟨fun K => ma K (ga K "Board") "__init__", "__init__", "Board.__init__", s_Board_init⟩) rfl
    exact ⟨_, fd, mkr_ok (fat c 46 rfl), F⟩
  have d_turned : DfM K (ga K "Board") "turned" "Board.turned" s_Board_turned := by
    obtain ⟨fd, F⟩ := c.def_ 30 (d := ⟨fun K => ma K (ga K "Board") "turned", "turned", "Board.turned", s_Board_turned⟩) rfl
    exact ⟨_, fd, meth_ok (fat c 47 rfl), F⟩
  have c_width := ok_width (P := P) (w := w) (base := base) (mg := mg) d_width T
  have c_height := ok_height (P := P) (w := w) (base := base) (mg := mg) d_height T
  have c_mirrors := ok_mirs (P := P) (w := w) (base := base) (mg := mg) d_mirrors T
  have c_divisor_and_factor := ok_gcd (P := P) (w := w) (base := base) (C := ga K "Board") d_divisor_and_factor
  have c_thread_class := ok_cls (P := P) (w := w) (base := base) (C := ga K "Board") d_thread_class T
  have c_steps_to := ok_steps (P := P) (w := w) (base := base) (C := ga K "Board") d_steps_to
  have c_behind_mirror := ok_behind (P := P) (w := w) (base := base) (C := ga K "Board") d_behind_mirror
  have c_folded_square := ok_fsq (P := P) (w := w) (base := base) (C := ga K "Board") d_folded_square T
  have c_folded_point := ok_fpt (P := P) (w := w) (base := base) (C := ga K "Board") d_folded_point T
  have c_points_of := ok_pts (P := P) (w := w) (base := base) (C := ga K "Board") d_points_of
  have c_unfolded := ok_unf (P := P) (w := w) (base := base) (C := ga K "Board") d_unfolded
  have c_to_mirror := ok_tom (P := P) (w := w) (base := base) (C := ga K "Board") d_to_mirror c_steps_to
  have c_from_mirror := ok_from (P := P) (w := w) (base := base) (C := ga K "Board") d_from_mirror c_to_mirror
  have c_legs := ok_legs (P := P) (w := w) (base := base) (C := ga K "Board") d_legs c_steps_to c_to_mirror c_from_mirror c_behind_mirror
  have c_frame_of := ok_frm (P := P) (w := w) (base := base) (C := ga K "Board") d_frame_of T c_width c_height c_mirrors c_divisor_and_factor
  have c_located := ok_loc (P := P) (w := w) (base := base) (C := ga K "Board") d_located T c_width c_height c_folded_square c_folded_point
  have c_check_square := ok_csq (P := P) (w := w) (base := base) (C := ga K "Board") d_check_square T c_width c_height
  have c_check_way := ok_cway (P := P) (w := w) (base := base) (C := ga K "Board") d_check_way T c_check_square c_points_of
  have c_next_mirror := ok_nxm (P := P) (w := w) (base := base) (C := ga K "Board") d_next_mirror T c_check_way c_to_mirror c_frame_of c_unfolded
  have c_stretches := ok_str (P := P) (w := w) (base := base) (C := ga K "Board") d_stretches T c_check_way c_legs c_frame_of c_unfolded
  have c_far_length := ok_flen (P := P) (w := w) (base := base) (C := ga K "Board") d_far_length T c_check_square c_stretches c_points_of
  have c_go_on := ok_go (P := P) (w := w) (base := base) (C := ga K "Board") d_go_on T c_check_way c_legs c_frame_of c_unfolded c_located
  have c_far_together := ok_tog (P := P) (w := w) (base := base) (C := ga K "Board") d_far_together T c_check_square c_legs c_frame_of c_unfolded c_points_of c_to_mirror c_steps_to c_thread_class
  have c_far_count := ok_cnt (P := P) (w := w) (base := base) (C := ga K "Board") d_far_count T c_frame_of c_thread_class c_from_mirror c_behind_mirror
  have c_is_inside := ok_ins (P := P) (w := w) (base := base) (C := ga K "Board") d_is_inside
  have c_other_kind := ok_oth (P := P) (w := w) (base := base) (C := ga K "Board") d_other_kind
  have c_moved_place := ok_mvp (P := P) (w := w) (base := base) (C := ga K "Board") d_moved_place
  have c_check_mirror := ok_chk (P := P) (w := w) (base := base) (C := ga K "Board") d_check_mirror T c_is_inside
  have c_kinds_of := ok_kof (P := P) (w := w) (base := base) (C := ga K "Board") d_kinds_of T c_check_mirror
  have c_init := ok_init (P := P) (w := w) (base := base) (mg := mg) d_init T c_kinds_of
  have c_turned := ok_trn (P := P) (w := w) (base := base) (mg := mg) d_turned T c_mirrors c_other_kind c_moved_place c_init
  have c_law_well := ok_well (P := P) (w := w) (base := base) (C := ga K "Board") d_law_well T
  have c_law_pick := ok_pick (P := P) (w := w) (base := base) (C := ga K "Board") d_law_pick T
  have c_law_side := ok_side (P := P) (w := w) (base := base) (C := ga K "Board") d_law_side c_law_pick
  have c_law_far := ok_far (P := P) (w := w) (base := base) (C := ga K "Board") d_law_far T c_law_pick c_law_side
  have c_law_mirrors := ok_lms (P := P) (w := w) (base := base) (C := ga K "Board") d_law_mirrors
  have c_law_moved := ok_mvd (P := P) (w := w) (base := base) (C := ga K "Board") d_law_moved
  have c_law_moved_square := ok_msq (P := P) (w := w) (base := base) (C := ga K "Board") d_law_moved_square T c_law_moved
  have c_law_points := ok_lpts (P := P) (w := w) (base := base) (C := ga K "Board") d_law_points T
  have c_law_unfolded := ok_lunf (P := P) (w := w) (base := base) (C := ga K "Board") d_law_unfolded
  have c_law_divisor := ok_div (P := P) (w := w) (base := base) (C := ga K "Board") d_law_divisor T
  have c_law_bare_step := ok_stp (P := P) (w := w) (base := base) (C := ga K "Board") d_law_bare_step T c_law_unfolded
  have c_law_same := ok_same (P := P) (w := w) (base := base) (C := ga K "Board") d_law_same T 3
  have c_law_bare := ok_bare (P := P) (w := w) (base := base) (C := ga K "Board") d_law_bare T c_law_divisor c_law_same c_far_count c_far_length c_far_together c_next_mirror c_stretches c_go_on c_law_points c_law_unfolded c_law_bare_step
  have c_law_turned := ok_ltrn (P := P) (w := w) (base := base) (C := ga K "Board") d_law_turned T c_turned c_law_same c_far_count c_far_length c_far_together c_go_on c_law_points c_law_moved c_law_moved_square
  exact ok_law F T c_law_well c_law_pick c_law_side c_law_far c_law_mirrors c_init c_law_bare c_law_turned
theorem facts (X : K.In h) (G : h.Ns mainGlobals mg) (hfa : mg ("law" : Str) = some (.ref f)) (c : Hk.Says faL fnL exB K) :
    ∃ fd : FuncData, (∀ (s : Shared) (v : Value), BindsTo s fd ⟨[v], []⟩ [("_law_script", v)]) ∧ ∀ base : Heap, FnOk P w K mg base CX0 8 f fd ["_law_script"] (spL K) := by
  obtain ⟨fd, F⟩ := c.def_ 45 (d := ⟨fun K => ga K "law", "law", "law", s_law⟩) rfl
  have e := hfa.symm.trans (glo_ok X G (fat c 40 rfl))
  cases e
  have b := FunD.bindsA (ps := ["_law_script"]) F fun _ _ _ _ _ _ us hl => match us, hl with | [_], _ => rfl
  exact ⟨fd, fun s v => b s [v] rfl, fun base => law_ok X G c F⟩
end
end Sw
open PySem PySem.W PySem.Calls PyProof.Rows
theorem PySem.Challenge.cw_sandthreads_k95_whole_bare_and_turned_holds : PySem.Challenge.rw_sandthreads_k95_whole_bare_and_turned.Holds := by
  w_on; o_law
  refine HandSHeadRun.head_any (r := OpenLaw.row PySem.Challenge.rw_sandthreads_k95_whole_bare_and_turned) (q := view (OpenLaw.row PySem.Challenge.rw_sandthreads_k95_whole_bare_and_turned).prog [58]) (H := Sw.hk) (ob := Sw.ob) (M := 6000) (loose := Sw.namesA) (d := HandSHeadRun.topDef (OpenLaw.row PySem.Challenge.rw_sandthreads_k95_whole_bare_and_turned).prog 58) (kwd := []) Sw.ob_eq
    (by kernel_rfl) (fun s => by kernel_rfl) Sw.run (by kernel_rfl) (by kernel_rfl) (by kernel_rfl) (by rfl) (by first | assumption | decide +kernel) (by decide +kernel) ⟨rfl, rfl, rfl, rfl, rfl, by decide +kernel⟩ ?hw ?hc
  case hw => w_witness2
  case hc =>
    refine L2.walk_ofE (l := PySem.Challenge.rw_sandthreads_k95_whole_bare_and_turned) (n := 63) (k := 8) (x := "_law_script") (CX := L2.CX0) rfl (by decide) (by kernel_rfl) ⟨rfl, by decide, by decide⟩ ?F (fun _ _ _ _ z => z)
    intro w mg fa h Y G hmg0
    obtain ⟨K, KX, c⟩ := Y
    have hmg : mg ("law" : PySem.Str) = some (.ref fa) := by
      have e : (HandSHeadRun.topDef (OpenLaw.row PySem.Challenge.rw_sandthreads_k95_whole_bare_and_turned).prog 58).name = ("law" : PySem.Str) := by kernel_rfl
      rw [← e]
      exact hmg0
    obtain ⟨fd, hb, hF⟩ := Sw.facts (P := (PySem.Challenge.rw_sandthreads_k95_whole_bare_and_turned).prog) (w := w) KX G hmg c
    exact ⟨K, fd, Sw.spL K, KX, hb, fun H a ns hl _ hS => ⟨a, ns, rfl, hS, fun _ => rfl⟩, fun base _ _ => hF base⟩
end
