import PyProof.Rows.All
import Wide.All
import OpenK.AllK
import Wide.FinOn
import HandS.ForMost
import HandS.IsInst
import HandS.TupMul
import HandS.TupAny
import HandS.NoneIn
import HandS.Style
import HandS.Walk
import KE.GoesEnum
import PyProof.ReprLen
import PySem.Challenge.RW_tickshares_k19_whole_simplest_shares
set_option Elab.async false
set_option linter.all false
set_option maxRecDepth 100000
set_option maxHeartbeats 8000000
/-! Plain mathematics for the law on the simplest share: no program in sight. -/
namespace Tk

/-! ### products of integers -/
theorem le_cross {x b a s b' a' : Int} (h1 : x * b ≤ a * s) (h2 : a * b' ≤ a' * b) (hb : 0 < b) (hb' : 0 ≤ b') (hs : 0 ≤ s) : x * b' ≤ a' * s := by
  have k1 : x * b * b' ≤ a * s * b' := Int.mul_le_mul_of_nonneg_right h1 hb'
  have k2 : a * b' * s ≤ a' * b * s := Int.mul_le_mul_of_nonneg_right h2 hs
  have e1 : x * b * b' = x * b' * b := by ac_rfl
  have e2 : a * s * b' = a * b' * s := by ac_rfl
  have e3 : a' * b * s = a' * s * b := by ac_rfl
  have k3 : x * b' * b ≤ a' * s * b := by rw [← e1, ← e3]; rw [e2] at k1; exact Int.le_trans k1 k2
  exact Int.le_of_mul_le_mul_right k3 hb
theorem lt_cross {x b a s b' a' : Int} (h1 : x * b ≤ a * s) (h2 : a * b' < a' * b) (hb : 0 < b) (hb' : 0 ≤ b') (hs : 0 < s) : x * b' < a' * s := by
  have k1 : x * b * b' ≤ a * s * b' := Int.mul_le_mul_of_nonneg_right h1 hb'
  have k2 : a * b' * s < a' * b * s := Int.mul_lt_mul_of_pos_right h2 hs
  have e1 : x * b * b' = x * b' * b := by ac_rfl
  have e2 : a * s * b' = a * b' * s := by ac_rfl
  have e3 : a' * b * s = a' * s * b := by ac_rfl
  have k3 : x * b' * b < a' * s * b := by rw [← e1, ← e3]; rw [e2] at k1; exact Int.lt_of_le_of_lt k1 k2
  exact Int.lt_of_mul_lt_mul_right k3 (Int.le_of_lt hb)
/-- two fractions that are one: the same floor -/
theorem floor_cross {x y a b p : Int} (h : x * b = a * y) (hy : 0 < y) (hb : 0 < b) : x * p / y = a * p / b := by
  have e1 : x * p / y = (x * p * b) / (y * b) := (Int.mul_ediv_mul_of_pos_left _ _ hb).symm
  have e2 : x * p * b = a * p * y := by
    rw [show x * p * b = x * b * p by ac_rfl, h]; ac_rfl
  rw [e1, e2, Int.mul_comm y b]
  exact Int.mul_ediv_mul_of_pos_left _ _ hy
theorem less_cross_right {x y a b e p : Int} (h : x * b = a * y) (hy : 0 < y) (hb : 0 < b) : e * y < x * p ↔ e * b < a * p := by
  constructor
  · intro k
    have k1 : e * y * b < x * p * b := Int.mul_lt_mul_of_pos_right k hb
    have e2 : x * p * b = a * p * y := by
      rw [show x * p * b = x * b * p by ac_rfl, h]; ac_rfl
    have e1 : e * y * b = e * b * y := by ac_rfl
    rw [e1, e2] at k1
    exact Int.lt_of_mul_lt_mul_right k1 (Int.le_of_lt hy)
  · intro k
    have k1 : e * b * y < a * p * y := Int.mul_lt_mul_of_pos_right k hy
    have e2 : x * p * b = a * p * y := by
      rw [show x * p * b = x * b * p by ac_rfl, h]; ac_rfl
    have e1 : e * y * b = e * b * y := by ac_rfl
    rw [← e1, ← e2] at k1
    exact Int.lt_of_mul_lt_mul_right k1 (Int.le_of_lt hb)
theorem less_cross_left {x y a b e p : Int} (h : x * b = a * y) (hy : 0 < y) (hb : 0 < b) : x * p < e * y ↔ a * p < e * b := by
  have e2 : x * p * b = a * p * y := by
    rw [show x * p * b = x * b * p by ac_rfl, h]; ac_rfl
  constructor
  · intro k
    have k1 : x * p * b < e * y * b := Int.mul_lt_mul_of_pos_right k hb
    rw [e2, show e * y * b = e * b * y by ac_rfl] at k1
    exact Int.lt_of_mul_lt_mul_right k1 (Int.le_of_lt hy)
  · intro k
    have k1 : a * p * y < e * b * y := Int.mul_lt_mul_of_pos_right k hy
    rw [← e2, show e * b * y = e * y * b by ac_rfl] at k1
    exact Int.lt_of_mul_lt_mul_right k1 (Int.le_of_lt hb)

/-! ### logs -/
/-- how many ticks were had up to t -/
def had (ns : List Int) (t : Nat) : Int := (ns.take t).sum
def Bits (ns : List Int) : Prop := ∀ x ∈ ns, x = 0 ∨ x = 1
theorem had_zero (ns : List Int) : had ns 0 = 0 := rfl
theorem had_step {ns : List Int} {t : Nat} {x : Int} (h : ns[t]? = some x) : had ns (t + 1) = had ns t + x := by
  unfold had
  rw [List.take_add_one, h, List.sum_append]
  simp
theorem had_bound {ns : List Int} (hb : Bits ns) : ∀ t, t ≤ ns.length → 0 ≤ had ns t ∧ had ns t ≤ (t : Int)
  | 0, _ => ⟨Int.le_refl _, Int.le_refl _⟩
  | t + 1, h => by
    have ih := had_bound hb t (by omega)
    have hx : ns[t]? = some ns[t] := List.getElem?_eq_getElem (by omega)
    have e := had_step hx
    have m : ns[t] = 0 ∨ ns[t] = 1 := hb _ (List.getElem_mem _)
    rw [e]
    push_cast
    omega

/-! ### the edges -/
def lowAt (ns : List Int) : Nat → Int × Int
  | 0 => (0, 1)
  | t + 1 => if (lowAt ns t).1 * ((t : Int) + 1) < (had ns (t + 1) - 1) * (lowAt ns t).2 then (had ns (t + 1) - 1, (t : Int) + 1) else lowAt ns t
def highAt (ns : List Int) : Nat → Int × Int
  | 0 => (2, 1)
  | t + 1 => if (had ns (t + 1) + 1) * (highAt ns t).2 < (highAt ns t).1 * ((t : Int) + 1) then (had ns (t + 1) + 1, (t : Int) + 1) else highAt ns t

structure LowOk (ns : List Int) (t : Nat) (l : Int × Int) : Prop where
  nn : 0 ≤ l.1
  pos : 1 ≤ l.2
  lt : l.1 < l.2
  le : l.2 ≤ (t : Int) + 1
  bound : ∀ s : Nat, 1 ≤ s → s ≤ t → (had ns s - 1) * l.2 ≤ l.1 * (s : Int)
  from_ : (l.1 = 0 ∧ l.2 = 1) ∨ ∃ s : Nat, 1 ≤ s ∧ s ≤ t ∧ l.1 = had ns s - 1 ∧ l.2 = (s : Int)
structure HighOk (ns : List Int) (t : Nat) (l : Int × Int) : Prop where
  nn : 1 ≤ l.1
  pos : 1 ≤ l.2
  top : l.1 ≤ (t : Int) + 2
  le : l.2 ≤ (t : Int) + 1
  bound : ∀ s : Nat, 1 ≤ s → s ≤ t → l.1 * (s : Int) ≤ (had ns s + 1) * l.2
  from_ : (l.1 = 2 ∧ l.2 = 1) ∨ ∃ s : Nat, 1 ≤ s ∧ s ≤ t ∧ l.1 = had ns s + 1 ∧ l.2 = (s : Int)
theorem lowOk {ns : List Int} (hb : Bits ns) : ∀ t, t ≤ ns.length → LowOk ns t (lowAt ns t)
  | 0, _ => ⟨Int.le_refl _, Int.le_refl _, (by show (0 : Int) < 1; decide), (by show (1 : Int) ≤ 0 + 1; decide), fun s h1 h2 => by omega, .inl ⟨rfl, rfl⟩⟩
  | t + 1, h => by
    have ih := lowOk hb t (by omega)
    have hh := had_bound hb (t + 1) h
    unfold lowAt
    split
    · rename_i c
      have hp : 0 < (had ns (t + 1) - 1) * (lowAt ns t).2 := Int.lt_of_le_of_lt (Int.mul_nonneg ih.nn (by omega)) c
      have h0 : 0 < had ns (t + 1) - 1 := by
        rcases Int.lt_or_le 0 (had ns (t + 1) - 1) with k | k
        · exact k
        · have := Int.mul_le_mul_of_nonneg_right k (show 0 ≤ (lowAt ns t).2 by have := ih.pos; omega)
          omega
      refine ⟨by show 0 ≤ had ns (t + 1) - 1; omega, by show 1 ≤ (t : Int) + 1; omega, by show had ns (t + 1) - 1 < (t : Int) + 1; have := hh.2; push_cast at this; omega, by show (t : Int) + 1 ≤ ((t + 1 : Nat) : Int) + 1; push_cast; omega, fun s h1 h2 => ?_,
        .inr ⟨t + 1, by omega, Nat.le_refl _, rfl, by show (t : Int) + 1 = ((t + 1 : Nat) : Int); push_cast; rfl⟩⟩
      show (had ns s - 1) * ((t : Int) + 1) ≤ (had ns (t + 1) - 1) * (s : Int)
      by_cases e : s = t + 1
      · subst e; push_cast; exact Int.le_refl _
      · exact le_cross (ih.bound s h1 (by omega)) (Int.le_of_lt c) (by have := ih.pos; omega) (by omega) (by omega)
    · rename_i c
      refine ⟨ih.nn, ih.pos, ih.lt, by have := ih.le; push_cast; omega, fun s h1 h2 => ?_, ?_⟩
      · by_cases e : s = t + 1
        · subst e
          push_cast
          exact Int.not_lt.mp c
        · exact ih.bound s h1 (by omega)
      · rcases ih.from_ with k | ⟨s, h1, h2, k⟩
        · exact .inl k
        · exact .inr ⟨s, h1, by omega, k⟩
theorem highOk {ns : List Int} (hb : Bits ns) : ∀ t, t ≤ ns.length → HighOk ns t (highAt ns t)
  | 0, _ => ⟨(by show (1 : Int) ≤ 2; decide), Int.le_refl _, (by show (2 : Int) ≤ 0 + 2; decide), (by show (1 : Int) ≤ 0 + 1; decide), fun s h1 h2 => by omega, .inl ⟨rfl, rfl⟩⟩
  | t + 1, h => by
    have ih := highOk hb t (by omega)
    have hh := had_bound hb (t + 1) h
    unfold highAt
    split
    · rename_i c
      refine ⟨by show 1 ≤ had ns (t + 1) + 1; omega, by show 1 ≤ (t : Int) + 1; omega, by show had ns (t + 1) + 1 ≤ ((t + 1 : Nat) : Int) + 2; omega, by show (t : Int) + 1 ≤ ((t + 1 : Nat) : Int) + 1; push_cast; omega, fun s h1 h2 => ?_,
        .inr ⟨t + 1, by omega, Nat.le_refl _, rfl, by show (t : Int) + 1 = ((t + 1 : Nat) : Int); push_cast; rfl⟩⟩
      show (had ns (t + 1) + 1) * (s : Int) ≤ (had ns s + 1) * ((t : Int) + 1)
      by_cases e : s = t + 1
      · subst e; push_cast; exact Int.le_refl _
      · exact le_cross (Int.le_of_lt c) (ih.bound s h1 (by omega)) (by have := ih.pos; omega) (by omega) (by omega)
    · rename_i c
      refine ⟨ih.nn, ih.pos, by have := ih.top; push_cast; omega, by have := ih.le; push_cast; omega, fun s h1 h2 => ?_, ?_⟩
      · by_cases e : s = t + 1
        · subst e
          push_cast
          exact Int.not_lt.mp c
        · exact ih.bound s h1 (by omega)
      · rcases ih.from_ with k | ⟨s, h1, h2, k⟩
        · exact .inl k
        · exact .inr ⟨s, h1, by omega, k⟩

/-! ### the first share between two numbers -/
def topOf (la lb p : Int) : Int := la * p / lb + 1
def Cond (la lb ha hb p : Int) : Prop := topOf la lb p ≤ p ∧ topOf la lb p * hb < ha * p
instance (la lb ha hb p : Int) : Decidable (Cond la lb ha hb p) := by unfold Cond; exact inferInstance
structure IsFirst (la lb ha hb P : Int) : Prop where
  pos : 1 ≤ P
  here : Cond la lb ha hb P
  none : ∀ q, 1 ≤ q → q < P → ¬ Cond la lb ha hb q
theorem least_nat {C : Nat → Prop} [DecidablePred C] : ∀ n, C n → ∃ m, m ≤ n ∧ C m ∧ ∀ k, k < m → ¬ C k := by
  intro n
  induction n using Nat.strongRecOn with
  | ind n ih =>
    intro hn
    by_cases h : ∃ k, k < n ∧ C k
    · obtain ⟨k, h1, h2⟩ := h
      obtain ⟨m, a, b, c⟩ := ih k h1 h2
      exact ⟨m, by omega, b, c⟩
    · exact ⟨n, Nat.le_refl _, hn, fun k hk hc => h ⟨k, hk, hc⟩⟩
theorem first_of {la lb ha hb p : Int} (h1 : 1 ≤ p) (hp : p ≤ 400) (h : Cond la lb ha hb p) : ∃ P, IsFirst la lb ha hb P ∧ P ≤ 400 := by
  have e : ((p.toNat - 1 : Nat) : Int) + 1 = p := by omega
  obtain ⟨m, a, b, c⟩ := least_nat (C := fun k : Nat => Cond la lb ha hb ((k : Int) + 1)) (p.toNat - 1) (by rw [e]; exact h)
  refine ⟨(m : Int) + 1, ⟨by omega, b, fun q h1 h2 => ?_⟩, by omega⟩
  have := c (q.toNat - 1) (by omega)
  rwa [show ((q.toNat - 1 : Nat) : Int) + 1 = q by omega] at this
theorem exists_first {la lb ha hb : Int} (h0 : 0 ≤ la) (h1 : 1 ≤ lb) (hlt : la < lb) (hl : lb ≤ 200) (k1 : 1 ≤ hb) (kl : hb ≤ 200) (h : la * hb < ha * lb) : ∃ P, IsFirst la lb ha hb P ∧ P ≤ 400 := by
  rcases Int.lt_or_le hb ha with c | c
  · have z : la * 1 / lb = 0 := by rw [Int.mul_one]; exact Int.ediv_eq_zero_of_lt h0 hlt
    refine first_of (p := 1) (by decide) (by decide) ⟨?_, ?_⟩
    · show la * 1 / lb + 1 ≤ 1
      omega
    · show (la * 1 / lb + 1) * hb < ha * 1
      rw [z]
      omega
  · have z1 : la * (lb + hb) / lb = la + la * hb / lb := by
      rw [Int.mul_add, Int.mul_comm la lb]
      exact Int.mul_add_ediv_left _ _ (by omega)
    have z2 : la * hb / lb < ha := Int.ediv_lt_of_lt_mul (by omega) h
    have z3 : topOf la lb (lb + hb) ≤ la + ha := by
      show la * (lb + hb) / lb + 1 ≤ la + ha
      rw [z1]
      omega
    refine first_of (p := lb + hb) (by omega) (by omega) ⟨by omega, ?_⟩
    have z4 := Int.mul_le_mul_of_nonneg_right z3 (show 0 ≤ hb by omega)
    have z5 : (la + ha) * hb = la * hb + ha * hb := Int.add_mul _ _ _
    have z6 : ha * (lb + hb) = ha * lb + ha * hb := Int.mul_add _ _ _
    omega

/-! ### what suits a log -/
def Suits (ns : List Int) (e p : Int) : Prop := ∀ t : Nat, 1 ≤ t → t ≤ ns.length → (t : Int) * e - had ns t * p < p ∧ had ns t * p - (t : Int) * e < p
theorem suits_of {ns : List Int} (hb : Bits ns) {e p : Int} (hp : 0 < p)
    (h1 : (lowAt ns ns.length).1 * p < e * (lowAt ns ns.length).2) (h2 : e * (highAt ns ns.length).2 < (highAt ns ns.length).1 * p) : Suits ns e p := by
  intro t t1 t2
  have L := lowOk hb ns.length (Nat.le_refl _)
  have R := highOk hb ns.length (Nat.le_refl _)
  have a1 : (had ns t - 1) * p < e * (t : Int) := lt_cross (L.bound t t1 t2) h1 (by have := L.pos; omega) (by omega) (by omega)
  have a2 : e * (t : Int) < (had ns t + 1) * p := by
    have b := R.bound t t1 t2
    have c1 : e * (highAt ns ns.length).2 * (t : Int) < (highAt ns ns.length).1 * p * (t : Int) := Int.mul_lt_mul_of_pos_right h2 (by omega)
    have c2 : (highAt ns ns.length).1 * (t : Int) * p ≤ (had ns t + 1) * (highAt ns ns.length).2 * p := Int.mul_le_mul_of_nonneg_right b (by omega)
    have c3 : e * (t : Int) * (highAt ns ns.length).2 < (had ns t + 1) * p * (highAt ns ns.length).2 := by
      have e1 : e * (highAt ns ns.length).2 * (t : Int) = e * (t : Int) * (highAt ns ns.length).2 := by ac_rfl
      have e2 : (highAt ns ns.length).1 * p * (t : Int) = (highAt ns ns.length).1 * (t : Int) * p := by ac_rfl
      have e3 : (had ns t + 1) * (highAt ns ns.length).2 * p = (had ns t + 1) * p * (highAt ns ns.length).2 := by ac_rfl
      rw [e1, e2] at c1
      rw [e3] at c2
      exact Int.lt_of_lt_of_le c1 c2
    exact Int.lt_of_mul_lt_mul_right c3 (by have := R.pos; omega)
  rw [Int.sub_mul, Int.one_mul] at a1
  rw [Int.add_mul, Int.one_mul] at a2
  have ec : (t : Int) * e = e * (t : Int) := Int.mul_comm _ _
  rw [ec]
  omega
theorem of_suits {ns : List Int} (hb : Bits ns) {e p : Int} (he : 1 ≤ e) (hep : e ≤ p) (h : Suits ns e p) :
    (lowAt ns ns.length).1 * p < e * (lowAt ns ns.length).2 ∧ e * (highAt ns ns.length).2 < (highAt ns ns.length).1 * p := by
  have L := lowOk hb ns.length (Nat.le_refl _)
  have R := highOk hb ns.length (Nat.le_refl _)
  constructor
  · rcases L.from_ with ⟨k1, k2⟩ | ⟨s, s1, s2, k1, k2⟩
    · rw [k1, k2]; omega
    · have := (h s s1 s2).2
      rw [k1, k2, Int.sub_mul, Int.one_mul, Int.mul_comm e]
      omega
  · rcases R.from_ with ⟨k1, k2⟩ | ⟨s, s1, s2, k1, k2⟩
    · rw [k1, k2]; omega
    · have := (h s s1 s2).1
      rw [k1, k2, Int.add_mul, Int.one_mul, Int.mul_comm e]
      omega
theorem top_pos {la lb p : Int} (h0 : 0 ≤ la) (h1 : 1 ≤ lb) (hp : 0 ≤ p) : 1 ≤ topOf la lb p := by
  have : 0 ≤ la * p / lb := Int.ediv_nonneg (Int.mul_nonneg h0 hp) (by omega)
  unfold topOf
  omega
theorem top_gt {la lb p : Int} (h1 : 1 ≤ lb) : la * p < topOf la lb p * lb := Int.lt_ediv_add_one_mul_self _ (by omega)
theorem top_le {la lb p e : Int} (h1 : 1 ≤ lb) (h : la * p < e * lb) : topOf la lb p ≤ e := by
  have : la * p / lb < e := Int.ediv_lt_of_lt_mul (by omega) h
  unfold topOf
  omega
/-- a fraction between the edges with the bottom q: q is one that the search accepts -/
theorem cond_of {la lb ha hb q e : Int} (h1 : 1 ≤ lb) (k1 : 1 ≤ hb) (hq : e ≤ q) (a : la * q < e * lb) (b : e * hb < ha * q) : Cond la lb ha hb q := by
  have t := top_le h1 a
  have m := Int.mul_le_mul_of_nonneg_right t (show 0 ≤ hb by omega)
  exact ⟨by omega, by omega⟩
theorem none_below {ns : List Int} (hb : Bits ns) {P e q : Int} (F : IsFirst (lowAt ns ns.length).1 (lowAt ns ns.length).2 (highAt ns ns.length).1 (highAt ns ns.length).2 P)
    (q1 : 1 ≤ q) (q2 : q < P) (e1 : 1 ≤ e) (e2 : e ≤ q) : ¬ Suits ns e q := fun h => by
  obtain ⟨a, b⟩ := of_suits hb e1 e2 h
  exact F.none q q1 q2 (cond_of (lowOk hb ns.length (Nat.le_refl _)).pos (highOk hb ns.length (Nat.le_refl _)).pos e2 a b)
theorem due_suits {ns : List Int} (hb : Bits ns) {P : Int} (F : IsFirst (lowAt ns ns.length).1 (lowAt ns ns.length).2 (highAt ns ns.length).1 (highAt ns ns.length).2 P) :
    Suits ns (topOf (lowAt ns ns.length).1 (lowAt ns ns.length).2 P) P :=
  suits_of hb (by have := F.pos; omega) (top_gt (lowOk hb ns.length (Nat.le_refl _)).pos) F.here.2
/-- the share that is found is in lowest terms -/
theorem first_lowest {la lb ha hb P : Int} (h1 : 1 ≤ lb) (k1 : 1 ≤ hb) (F : IsFirst la lb ha hb P) : Int.gcd (topOf la lb P) P = 1 := by
  have hP := F.pos
  obtain ⟨c1, c2⟩ := F.here
  have hg : Int.gcd (topOf la lb P) P ≠ 0 := fun z => by
    have := (Int.gcd_eq_zero_iff.mp z).2
    omega
  obtain ⟨e', he⟩ := Int.gcd_dvd_left (topOf la lb P) P
  obtain ⟨p', hp⟩ := Int.gcd_dvd_right (topOf la lb P) P
  generalize hgg : Int.gcd (topOf la lb P) P = g at *
  have gpos : (0 : Int) < (g : Int) := by omega
  have a := top_gt (la := la) (p := P) h1
  have p'pos : 0 < p' := by
    have : 0 < (g : Int) * p' := by rw [← hp]; omega
    exact Int.pos_of_mul_pos_right this gpos
  have a' : la * p' < e' * lb := by
    rw [he] at a
    rw [hp] at a
    have k : la * p' * (g : Int) < e' * lb * (g : Int) := by
      rw [show la * p' * (g : Int) = la * ((g : Int) * p') by ac_rfl, show e' * lb * (g : Int) = (g : Int) * e' * lb by ac_rfl]
      exact a
    exact Int.lt_of_mul_lt_mul_right k (by omega)
  have b' : e' * hb < ha * p' := by
    rw [he] at c2
    rw [hp] at c2
    have k : e' * hb * (g : Int) < ha * p' * (g : Int) := by
      rw [show e' * hb * (g : Int) = (g : Int) * e' * hb by ac_rfl, show ha * p' * (g : Int) = ha * ((g : Int) * p') by ac_rfl]
      exact c2
    exact Int.lt_of_mul_lt_mul_right k (by omega)
  have l' : e' ≤ p' := by
    rw [he] at c1
    rw [hp] at c1
    exact Int.le_of_mul_le_mul_left c1 gpos
  have C := cond_of h1 k1 l' a' b'
  have ge : P ≤ p' := by
    rcases Int.lt_or_le p' P with z | z
    · exact absurd C (F.none p' (by omega) z)
    · exact z
  have : (g : Int) * p' ≤ 1 * p' := by rw [← hp, Int.one_mul]; exact ge
  have := Int.le_of_mul_le_mul_right this p'pos
  omega
end Tk
/-! Rules that the law's own text wants beside the hand layer: repr of plain data, enumerate of a tuple, a call by keywords alone, and defs whose callers are known not to stand within a repr. -/
namespace Tk
open PySem
open PySem.Spec
open PyProof.Rows
open L2

/-! ### repr(list or tuple of plain data) -/
/-- asks that no repr is under way where one stands -/
def rRepr (X : Cx) : List V → Hp → VK → Prop := fun xs H Q => ∃ (a : Addr) (d : PyData), xs = [V.ref a] ∧ Dp X.K H (V.ref a) d ∧ X.A.guards = some [] ∧ X.A.units + (d.depth + 1) < cLine ∧
  d.showable = true ∧ d.hasDict = false ∧ d.shown.length ≤ sizeLine ∧ Q (.str d.shown) H
theorem call_repr_data {X : Cx} : CallR X (.builtin "repr") (rRepr X) := by
  intro pins s σ H xs us Q I rel ask
  obtain ⟨a, d, rfl, hd, hg, hu, hs, hn, hz, q⟩ := ask
  obtain ⟨_, rfl, rfl⟩ := vals1 rel
  obtain ⟨as, rd⟩ := Dp.reads I d (V.ref a) (Value.ref a) hd rfl
  exact repr_of_reads' rd hs (PyData.noDict_hsm hn) hg hu (fun _ _ e => e) (fun h' t tk hk => ⟨V.str d.shown, H, I.kept hk, ⟨t, rfl⟩, q⟩) hz

/-! ### enumerate(tuple) -/
set_option maxHeartbeats 4000000 in
theorem enum_one {v : Value} {o : Obj} {G : Heap → Prop} (B : Begins v o G) :
    Meets (Builtin.«enumerate.__new__» ⟨[.type "enumerate", v], []⟩)
      (fun _ R s => G s.heap ∧ R (.ok (.ret (.ref (s.heap.push o).objs.size)))
        { s with heap := (s.heap.push o).push { cls := .type "enumerate", data := .fields #[.none, .bool false, .ref s.heap.objs.size, rawInt 0, .none, .none] } }) :=
  .of_wp fun prog w A R s hs => by
    obtain ⟨hp, g, d, tk, os⟩ := s
    obtain ⟨hG, hR⟩ := hs
    have hsub := sub_enumerate
    have goes : ∀ {A' : Around} {E Q : Value → Shared → Prop}, Q (.ref hp.objs.size) ⟨hp.push o, g, d, tk, os⟩ → wpAny (model prog w) A' (pyIter v) Q E ⟨hp, g, d, tk, os⟩ :=
      fun k => B.iter prog w _ _ ⟨hp, g, d, tk, os⟩ _ hG k
    wp_walk using goes
    refine wpAny_stack_any fun around => wpAny_pure ?_
    split
    · rename_i c _ _ _ _ _
      cases (c == Value.type "enumerate") <;>
        (wp_walk using goes
         exact ⟨_, rfl, hR⟩)
    · wp_walk using goes
      exact ⟨_, rfl, hR⟩
section
variable {prog : Program} {w : World} {A : Around} {E : Value → Shared → Prop} {s : Shared}
theorem enum_one_begins {v : Value} {o : Obj} {G : Heap → Prop} {Q : Value → Shared → Prop} (B : Begins v o G) (hG : G s.heap)
    (h : ∀ h', IsEnum h' (s.heap.objs.size + 1) s.heap.objs.size 0 .none → h'.get? s.heap.objs.size = some o →
      (∀ b o', s.heap.get? b = some o' → h'.get? b = some o') → Q (.ref (s.heap.objs.size + 1)) { s with heap := h' }) :
    wpAny (model prog w) A (call (.type "enumerate") [v]) Q E s := by
  refine callType_new (Bn := _) F.called_enumerate (by decide) (F.typeCall_enumerate_1 v) (F.newCall_enumerate_1 v) (fun it => F.args_object_init_2 it v) F.entry_enumerate_new (enum_one B) ⟨hG, ?_⟩
  have z : (s.heap.push o).objs.size = s.heap.objs.size + 1 := Heap.size_push ..
  have last := Heap.get?_push_size (s.heap.push o) (o := { cls := .type "enumerate", data := .fields #[.none, .bool false, .ref s.heap.objs.size, rawInt 0, .none, .none] }) rfl
  rw [z] at last
  show _ ∧ _
  rw [z]
  exact ⟨⟨_, last, rfl⟩, h _ last (Heap.get?_push_of_some _ (Heap.get?_push_size _ B.free)) fun b o' k => Heap.get?_push_of_some _ (Heap.get?_push_of_some _ k)⟩
end
/-- the tuple at a, each item in a new pair with its place -/
def ItQ (K : PySem.W.Frag) (a : Addr) : It where
  go := fun i H => ∃ (xs : List V) (x : V), SqT K H a xs ∧ xs[i]? = some x
  yld := fun i H v H' => ∃ T x, v = .ref T ∧ H T = none ∧ H' = upd H T (.tup [.int (i : Nat), x]) ∧ ∀ xs, SqT K H a xs → xs[i]? = some x
  stop := fun i H => ∃ xs : List V, SqT K H a xs ∧ xs.length = i
theorem apart_of {h : Heap} {a b : Addr} {items : Array Value} {o : Obj} (ht : h.IsTuple a items) (ho : h.get? b = some o) (hc : o.cls ≠ .type "tuple") : a ≠ b := fun z => by
  obtain ⟨o', e, c, _⟩ := ht
  rw [z, ho] at e
  cases e
  exact hc c
theorem turn_enumT {P : Program} {w : World} {K : PySem.W.Frag} {elts : List Expr} {kk : Nat} {tpos : Pos} (a e it : Addr) :
    Turn P w K (.Tuple elts kk tpos) (ItQ K a) [e, it] e (fun i h => (∃ old, IsEnum h e it ((i : Nat) : Int) old) ∧ h.IsTupleIter it a i ∧ e ≠ it) where
  mem := List.mem_cons_self ..
  obj := fun i h st b hb => by
    obtain ⟨⟨old, he⟩, ⟨oi, ho, _, hd⟩, _⟩ := st
    rcases (by simpa using hb : b = e ∨ b = it) with rfl | rfl
    · exact ⟨_, he, fun v q => nomatch q⟩
    · exact ⟨oi, ho, fun v q => by rw [hd] at q; cases q⟩
  keep := fun i h h' st k => by
    obtain ⟨⟨old, he⟩, hi, ne⟩ := st
    exact ⟨⟨old, k e (List.mem_cons_self ..) _ he⟩, hi.at fun o q => k it (by simp) o q, ne⟩
  item := by
    intro X e1 e2 e3 hc i pins s σ H E I hf st hg
    subst e1 e2 e3
    obtain ⟨⟨old, he⟩, hit, ne⟩ := st
    obtain ⟨xs, x, hq, hx⟩ := hg
    obtain ⟨its, rv, ht, _⟩ := I.tuple hq
    obtain ⟨u, hu, relU⟩ := rv.get hx
    have nai : a ≠ it := by
      obtain ⟨o, ho, co, _⟩ := id hit
      exact apart_of ht ho (by rw [co]; decide +kernel)
    have nae : a ≠ e := apart_of ht he (by show Value.type "enumerate" ≠ _; decide +kernel)
    have le : e < s.heap.objs.size := Heap.lt_size he
    have li : it < s.heap.objs.size := by
      obtain ⟨_, q, _⟩ := id hit
      exact Heap.lt_size q
    have hi : i < its.toArray.size := by
      rw [List.size_toArray]
      exact (List.getElem?_eq_some_iff.mp hu).1
    have D : Draws X.prog X.w X.A.in1 it [it, a] its.toArray.size (fun i v => its.toArray[i]? = some v) (fun i h => h.IsTupleIter it a i ∧ h.IsTuple a its.toArray) := Draws.tuple (A := X.A.in1) (I.ok.hd hc) it a nai its.toArray
    refine wpAny_pyNext_enum_itemD D he ⟨hit, ht⟩ hi ne (by simp [ne, Ne.symm nae]) fun y h' tk hy ho hs hT hz hk => ?_
    obtain rfl : y = u := by
      have q : its.toArray[i]? = some u := by simpa using hu
      exact Option.some.inj (hy.symm.trans q)
    refine ⟨_, rfl, wpAny_letOwnedTupleGo_enum (s := { s with heap := h', toks := tk + 1 }) ho fun h2 he2 sb => ?_⟩
    have hT2 : h2.get? s.heap.objs.size = some { cls := .type "tuple", data := .seq #[.int i tk, y] } := (sb.2 _ (Nat.ne_of_gt le)).trans hT
    have stays : ∀ b ob, b ∉ [e, it] → s.heap.get? b = some ob → h2.get? b = some ob := fun b ob hb q => by
      have b1 : b ≠ e := fun z => hb (by simp [z])
      have b2 : b ≠ it := fun z => hb (by simp [z])
      exact (sb.2 b b1).trans (hk b ob b1 b2 q)
    have I2 : Inv X pins σ (upd H s.heap.objs.size (.tup [.int (i : Nat), x])) { s with heap := h2, toks := tk + 1 } :=
      I.turnedNew stays hf (Nat.le_refl _) ⟨by show 2 ≤ sizeLine; decide, [.int i tk, y], .cons ⟨_, rfl⟩ (.cons relU .nil), _, hT2, rfl, _, rfl⟩
    refine ⟨.ref s.heap.objs.size, _, I2, rfl, ⟨_, x, rfl, I.hok.fresh (Nat.le_refl _), rfl, fun ys hy => by rw [I.tuple_inj hy hq]; exact hx⟩, ⟨⟨y, ?_⟩, hs.1.at fun o q => (sb.2 it (Ne.symm ne)).trans q, ne⟩, fun b hb => ?_⟩
    · rw [show ((i + 1 : Nat) : Int) = (i : Int) + 1 by omega]
      exact he2
    · have lb : b < s.heap.objs.size := by
        rcases (by simpa using hb : b = e ∨ b = it) with rfl | rfl
        · exact le
        · exact li
      rw [upd_ne (Nat.ne_of_lt lb)]
      exact (hf b hb).1
  done := by
    intro X e1 e2 e3 hc i pins s σ H E I hf st hg
    subst e1 e2 e3
    obtain ⟨⟨old, he⟩, hit, ne⟩ := st
    obtain ⟨xs, hq, hx⟩ := hg
    obtain ⟨its, rv, ht, _⟩ := I.tuple hq
    have nai : a ≠ it := by
      obtain ⟨o, ho, co, _⟩ := id hit
      exact apart_of ht ho (by rw [co]; decide +kernel)
    have D : Draws X.prog X.w X.A.in1 it [it, a] its.toArray.size (fun i v => its.toArray[i]? = some v) (fun i h => h.IsTupleIter it a i ∧ h.IsTuple a its.toArray) := Draws.tuple (A := X.A.in1) (I.ok.hd hc) it a nai its.toArray
    have ei : its.toArray.size = i := by rw [List.size_toArray, ← rv.length, hx]
    rw [ei] at D
    obtain ⟨z0, z1, _, z3, z4, z5⟩ := hf it (by simp)
    exact wpAny_pyNext_enum_endD D he ⟨hit, ht⟩ fun h' eb => ⟨rfl, I.turned (t' := s.toks) (fun b o hb q => eb b o hb q) z0 z1 z3 z4 z5⟩
  self := fun _ _ _ _ _ ⟨⟨_, he⟩, _⟩ want => wpAny_pyIter_enum he want
def iEnumT (K : PySem.W.Frag) (ta : TA) : TI := fun σ H R => ta σ H fun vs H1 => ∃ a xs, vs = [.ref a] ∧ SqT K H1 a xs ∧ R (ItQ K a) H1
theorem pi_enumT {X : Cx} {e : Expr} {ta : TA} {p pos tpos : Pos} {elts : List Expr} {kk : Nat} (hg : Gl X "enumerate") (hm : X.mg "enumerate" = none) (ha : PA X [e] ta) (hs : starEach [e] X.env = [(false, eval e X.env)] := by rfl) :
    PI X (.Tuple elts kk tpos) (.Call (.Name "enumerate" p) [e] [] pos) (iEnumT X.K ta) := by
  constructor
  intro pins s σ H R I h
  refine Call_ (ld_blt I hg hm boot_enumerate (PyProof.Rows.callWith_type1 (thn (ha.run pos pins s σ H _ I h) fun us s1 q => ?_) hs rfl))
  obtain ⟨vs, H1, I1, r1, a, xs, rfl, hq, hR⟩ := q
  obtain ⟨_, rfl, rfl⟩ := vals1 r1
  obtain ⟨its, rv, ht, _⟩ := I1.tuple hq
  refine enum_one_begins (begins_tuple a its.toArray) ht fun h' he hit keeps => wpAny_pyIter_enum he ?_
  refine ⟨s1.heap.objs.size + 1, [s1.heap.objs.size + 1, s1.heap.objs.size], _, _, H1, rfl, I1.kept (t' := s1.toks) keeps, turn_enumT a (s1.heap.objs.size + 1) s1.heap.objs.size,
    ⟨⟨.none, he⟩, ⟨_, hit, rfl, rfl⟩, Nat.succ_ne_self _⟩, fun b hb => ?_, hR⟩
  have lb : s1.heap.objs.size ≤ b := by
    rcases (by simpa using hb : b = s1.heap.objs.size + 1 ∨ b = s1.heap.objs.size) with rfl | rfl
    · exact Nat.le_add_right _ _
    · exact Nat.le_refl _
  exact I1.fpOk lb (I1.hok.fresh lb)
theorem walk_enumT {K : PySem.W.Frag} {a : Addr} {xs : List V} :
    Walk (ItQ K a) xs.length (fun H => SqT K H a xs) (YPair (fun i => some (.int (i : Nat))) (fun i => xs[i]?)) where
  goes := fun i H hi q => ⟨xs, xs[i], q, List.getElem?_eq_getElem hi⟩
  stops := fun H q => ⟨xs, q, rfl⟩
  yields := fun i H v H' hi q y => by
    obtain ⟨T, x, e1, e2, e3, e4⟩ := y
    exact ⟨T, .int (i : Nat), x, e1, e2, e3, rfl, e4 xs q⟩

/-! ### f(k = v), no positional argument -/
theorem pe_callK0 {X : Cx} {CX : CXT} {k : Nat} {f : Addr} {fd : FuncData} {ps ks : List Str} {sp : Sp} {E : XK} {x : Str} {p pos : Pos} {kws : List Keyword} {tk : TA} {g : List Value → List Value → List Value} {gV : List V → List V → List V}
    (F : FnOk X.prog X.w X.K X.mg X.base CX k f fd ps sp) (hr : Room k X.A) (hg : Gl X x) (hm : X.mg x = some (.ref f)) (hk : PySem.W.keepIn X.K (.ref f) = true) (hb : KBinds X.K fd ps ks g gV) (hx : Passes CX X E) (hkw : PK X kws tk)
    (named : (backToKw pos (keywordEach kws X.env)).all (·.1.isSome) = true := by rfl)
    (names : (backToKw pos (keywordEach kws X.env)).filterMap (·.1) = ks := by rfl) (hdb : (x == ("__debug__" : Str)) = false := by decide)
    (plain : ((backTo pos (starEach [] X.env)).any (·.1) || (backToKw pos (keywordEach kws X.env)).any (·.1.isNone)) = false := by rfl) :
    PE X (.Call (.Name x p) [] kws pos) (tCallK sp gV E tNil tk) := by
  constructor
  intro pins s σ H Q I h
  refine wpAny_Call_Name_kw (ld_glob I hg hm (PySem.W.callWith_KW0 (h₀ := X.base) I.ok.mod.kin hk named ?_ plain) hdb)
  refine thn (hkw.run pos pins s σ H _ I h) fun ws s1 ⟨zs, H1, I1, rz, q⟩ => ⟨I1.kIn, ?_⟩
  rw [names]
  exact run_fnk (us := []) (vs := []) F hr hb hx I1 .nil rz q

/-! ### defs that are called where no repr is under way (what stands around is told by «guards») -/
structure FnG (P : Program) (w : World) (K : PySem.W.Frag) (mg : Str → Option Value) (base : Heap) (k : Nat) (f : Addr) (fd : FuncData) (ps : List Str) (sp : Sp) : Prop where
  len : ∀ vs H Q, sp vs H Q E0 → vs.length = ps.length
  run : ∀ (A : Around) (outer : List Env) (s : Shared) (H : Hp) (args : Args) (us : List Value) (vs : List V) (Q : VK), A.guards = some [] → Room k A → Env0 P w K mg base A outer s H →
    BindsTo s fd args (ps.zip us) → Vals vs us → sp vs H Q E0 → codeAny (model P w) A (.call (.ref f) args) (CR CX0 outer P w H s Q E0) s
section
variable {P : Program} {w : World} {base : Heap} {K : PySem.W.Frag} {mg : Str → Option Value}
/-- a def by its body, the guards told -/
theorem Fun.okG {x qual : Str} {st : Stmt} {f : Addr} {fd : FuncData} {N ps : List Str} {k : Nat} {sp : Sp} (F : Fun K x qual st f fd) (S : FnScope N ps (defScope st)) (len : ∀ vs H Q, sp vs H Q E0 → vs.length = ps.length)
    (body : ∀ (cdv : Value) (A : Around) (outer : List Env) (s : Shared) (H : Hp) (vs : List V) (Q : VK), A.guards = some [] → Room k (A.deeper (envOfC qual (defScope st) s.heap.objs.size f cdv)) → sp vs H Q E0 →
      ∃ t, PSs (cxOf CX0 P w K mg base N qual (defScope st) f cdv A outer s H E0).nox (defBody st) t ∧ t { nx := fun _ H' => Q .non H', rt := Q } (start N vs) H) : FnG P w K mg base (k + 1) f fd ps sp := by
  obtain ⟨oc, od, kV, doc, pm, an, cdv, ct, sl, rfl, lk, code⟩ := F.ex
  refine ⟨len, fun A outer s H args us vs Q hgd hr e0 hb rv hsp => ?_⟩
  have lv := len _ _ _ hsp
  have old : ∀ b o, base.get? b = some o → s.heap.get? b = some o := fun b o e => (e0.bs b o e).1
  have KX : K.In s.heap := e0.mod.kin.keeps old
  have kinds : ∀ y ∈ ps.zip us, (defScope st).names.lookup y.1 = some .local ∨ ((defScope st).names.lookup y.1 = some .cell ∧ ((cellsFrom (s.heap.objs.size + 1) (defScope st).names []).lookup y.1).isSome = true) := fun y hy => by
    rcases S.par y.1 (List.of_mem_zip (a := y.1) (b := y.2) hy).1 with q | q
    · exact Or.inl q
    · exact Or.inr ⟨q, PySem.W.cellsFrom_some _ _ _ (Or.inl q)⟩
  refine codeAny_call_function hr.depth (KX _ _ lk) rfl S.co S.gen rfl (PySem.W.codeRec_of KX code) (hb _ _ _ _ ?_)
  refine wpAny_newFunctionEnv_cells S.kind kinds fun env he s1 x => ?_
  subst he
  refine ⟨(e0.mod.nolimit.keeps old).keeps x.toInCall.keep, codeAny_func ?_⟩
  obtain ⟨t, ht, hq⟩ := body cdv A outer s H vs Q hgd (hr.deeper _) hsp
  have I0 : Inv (cxOf CX0 P w K mg base N qual (defScope st) f cdv A outer s H E0) [] (start N vs) H s1 := inv_start S hr.hd e0 lv rv x
  refine wpAny_mono (ht.nox.run [] s1 (start N vs) H _ I0 hq) (fun fl s' out => ?_) fun _ _ out => out
  cases fl with
  | ret u =>
    obtain ⟨v, _, H', J, r, q⟩ := out
    exact ⟨v, H', J.os, J.bare, J.base, J.hok, r, q⟩
  | next =>
    obtain ⟨_, H', J, q⟩ := out
    exact ⟨V.non, H', J.os, J.bare, J.base, J.hok, rfl, q⟩
  | brk => exact (let ⟨_, _, _, q⟩ := out; q : False).elim
  | cont => exact (let ⟨_, _, _, q⟩ := out; q : False).elim
end
/-- f(e, ..) of such a def -/
theorem pe_callG {X : Cx} {k : Nat} {f : Addr} {fd : FuncData} {ps : List Str} {sp : Sp} {x : Str} {p pos : Pos} {e : Expr} {es : List Expr} {t : TA} (F : FnG X.prog X.w X.K X.mg X.base k f fd ps sp) (hgd : X.A.guards = some []) (hr : Room k X.A)
    (hg : Gl X x) (hm : X.mg x = some (.ref f)) (hk : PySem.W.keepIn X.K (.ref f) = true) (hb : Binds X.K fd ps []) (ha : PA X (e :: es) t) (hdb : (x == ("__debug__" : Str)) = false := by decide)
    (he : starEach (e :: es) X.env = (false, eval e X.env) :: starEach es X.env := by rfl) (hpl : (backTo pos (starEach es X.env)).any (·.1) = false := by rfl) : PE X (.Call (.Name x p) (e :: es) [] pos) (tCall sp [] E0 t) := by
  constructor
  intro pins s σ H Q I h
  refine wpAny_Call_Name_kw (ld_glob I hg hm (PySem.W.callWith_K (h₀ := X.base) I.ok.mod.kin hk (thn (ha.run pos pins s σ H _ I h) fun us s1 q1 => ?_) he hpl) hdb)
  obtain ⟨vs, H1, I1, r, q⟩ := q1
  refine ⟨I1.kIn, ?_⟩
  rw [List.append_nil] at q
  have ln : (us ++ []).length = ps.length := by
    rw [List.append_nil, ← r.length]
    exact F.len _ _ _ q
  have bn := hb s1 us I1.kIn ln
  rw [List.append_nil] at bn
  refine wpAny_call (codeAny_mono (F.run X.A X.stack s1 H1 ⟨us, []⟩ us vs Q hgd hr I1.env0 bn r q) fun res s2 out => ?_)
  cases res with
  | error er => exact (show False from out).elim
  | ok fl =>
    cases fl with
    | ret u => exact I1.after out
    | next => exact (show False from out).elim
    | brk => exact (show False from out).elim
    | cont => exact (show False from out).elim
/-! ### the law's own call -/
/-- the law's answer is True, and what stood ahead of the call stands -/
def Won (t : Shared) (r : Result) (s : Shared) : Prop := r = .ok (.ret (.bool true)) ∧ OldK t.heap s.heap ∧ s.os = t.os ∧ AllBare s.gens
theorem law_callG {P : Program} {w : World} {K : PySem.W.Frag} {mg mb : Str → Option Value} {k : Nat} {fa a : Addr} {fd : FuncData} {x : Str} {sp : Sp} {t : Shared} {vs : List Value} {ns : List Int}
    (KX : K.In t.heap) (hns : t.heap.Ns mainGlobals mg) (hb : t.heap.Ns builtinsNs mb) (hbb : ∀ y : Str, y ≠ "__name__" → mb y = bootBuiltins y) (hlim : t.heap.NoLimit) (hg : t.gens = #[])
    (ha : t.heap.get? a = some { cls := .type "list", data := .seq vs.toArray }) (hi : IntsAre vs ns) (hl : ns.length ≤ sizeLine) (hr : Room k callerA)
    (F : ∀ base : Heap, K.In base → base.Ns mainGlobals mg → FnG P w K mg base k fa fd [x] sp) (hbind : ∀ (s : Shared) (u : Value), BindsTo s fd ⟨[u], []⟩ [(x, u)])
    (hsp : ∀ H : Hp, SqL K H a (ns.map V.int) → sp [.ref a] H (fun v _ => v = .bl true) E0) : codeAny (model P w) callerA (.call (.ref fa) ⟨[.ref a], []⟩) (Won t) t := by
  have rv := vals_ints hi
  have ln := hi.length
  -- H: the script alone, frozen as it is, or nothing
  have core : ∀ H : Hp, SqL K H a (ns.map V.int) → HOk P w H t.heap → (∀ b u, H b = some u → b = a ∧ K.lookup a = none ∧ ∃ o v, u = .frz o v) →
      codeAny (model P w) callerA (.call (.ref fa) ⟨[.ref a], []⟩) (Won t) t := by
    intro H hS hok only
    have none_of : ∀ b, b ≠ a → H b = none := fun b nb => by
      cases q : H b with
      | none => rfl
      | some u => exact absurd (only b u q).1 nb
    have ns_of : ∀ {b : Addr} {m : Str → Option Value}, t.heap.Ns b m → (hidT t.heap H).Ns b m := fun {b m} n => by
      obtain ⟨o, es, ep, e, d, r⟩ := n
      refine ⟨o, es, ep, hidT_get e (none_of b fun z => ?_), d, r⟩
      rw [z, ha] at e
      cases e
      exact nomatch d
    have kb : K.In (hidT t.heap H) := fun b o e => by
      refine hidT_get (KX b o e) ?_
      cases q : H b with
      | none => rfl
      | some u =>
        obtain ⟨z, kn, _⟩ := only b u q
        rw [z, kn] at e
        cases e
    have md : Mod K mg (hidT t.heap H) := ⟨kb, ns_of hns, ⟨mb, ns_of hb, hbb⟩, by obtain ⟨mc, h1, h2⟩ := hlim; exact ⟨mc, ns_of h1, h2⟩⟩
    have e0 : Env0 P w K mg (hidT t.heap H) callerA [] t H :=
      { frames := rfl, mod := md, bs := fun b o e => of_hidT e, bsz := Nat.le_of_eq (hidT_size _ _), funs := trivial, frf := fun b hb => absurd (show b ∈ ([] : List Addr) from hb) List.not_mem_nil, hok := hok, bare := .of_eq hg }
    refine codeAny_mono ((F _ kb (ns_of hns)).run callerA [] t H ⟨[.ref a], []⟩ [.ref a] [.ref a] _ rfl hr e0 (hbind t (.ref a)) (.cons rfl .nil) (hsp H hS)) fun res s' out => ?_
    cases res with
    | error er => exact (show False from out).elim
    | ok fl =>
      cases fl with
      | next => exact (show False from out).elim
      | brk => exact (show False from out).elim
      | cont => exact (show False from out).elim
      | ret u =>
        obtain ⟨v, H', os, bare, un, hok', r, rfl⟩ := out
        obtain rfl : u = Value.bool true := r
        refine ⟨rfl, .of_keep fun b o e => ?_, os, bare⟩
        cases q : H b with
        | none => exact un.keep b o e q (fun z => absurd (show b ∈ ([] : List Addr) from z) List.not_mem_nil) List.not_mem_nil
        | some y =>
          obtain ⟨_, _, ob, tt, rfl⟩ := only b y q
          have was := (hok b _ q).1
          have is := (hok' b _ (un.frzs b ob tt q)).1
          rw [e] at was
          rw [is, was]
  cases hk : K.lookup a with
  | some o =>
    have e := KX a o hk
    rw [ha] at e
    cases e
    exact core (fun _ => none) (.inr ⟨_, vs.toArray, _, hk, rfl, rfl, rfl, by rw [List.size_toArray, ln]; exact hl, by simpa using rv⟩) (fun b u z => nomatch z) fun b u z => nomatch z
  | none =>
    have at_ : upd (fun _ => none) a (.frz { cls := .type "list", data := .seq vs.toArray } (.lst (ns.map V.int))) a = some (.frz { cls := .type "list", data := .seq vs.toArray } (.lst (ns.map V.int))) := upd_same
    have sole : ∀ b u, upd (fun _ => none) a (.frz { cls := .type "list", data := .seq vs.toArray } (.lst (ns.map V.int))) b = some u → b = a ∧ u = .frz { cls := .type "list", data := .seq vs.toArray } (.lst (ns.map V.int)) := fun b u z => by
      by_cases hb : b = a
      · subst hb
        rw [upd_same] at z
        exact ⟨rfl, (Option.some.inj z).symm⟩
      · rw [upd_ne hb] at z
        exact nomatch z
    refine core _ (.inl (.inr ⟨_, at_⟩)) (fun b u z => ?_) fun b u z => ?_
    · obtain ⟨rfl, rfl⟩ := sole b u z
      refine ⟨ha, ?_, vs, _, rv, ha⟩
      rw [List.length_map]
      exact hl
    · obtain ⟨rfl, rfl⟩ := sole b u z
      exact ⟨rfl, hk, _, _, rfl⟩
theorem walk_G {l : PySem.W.OpenLaw} {n k : Nat} {prog : Program} {loose : List Str} {XP : (Str → Option Value) → Heap → Prop} {YP : World → Heap → Prop} {d : DefRec} {K : Params → PySem.W.Frag} {sp : PySem.W.Frag → Sp} {x : Str}
    (most : l.most = some n) (fit : n ≤ sizeLine) (plain : d.params.defaults = []) (hr : Room k callerA) (kin : ∀ (w : World) (h : Heap), YP w h → (K w.params).In h)
    (F : ∀ (w : World) (mg : Str → Option Value) (f : Addr) (h : Heap), (K w.params).In h → h.Ns mainGlobals mg → mg d.name = some (.ref f) →
      ∃ fd : FuncData, (∀ (s : Shared) (u : Value), BindsTo s fd ⟨[u], []⟩ [(x, u)]) ∧ ∀ base : Heap, (K w.params).In base → base.Ns mainGlobals mg → FnG l.prog w (K w.params) mg base k f fd [x] (sp (K w.params)))
    (hsp : ∀ (K : PySem.W.Frag) (H : Hp) (a : Addr) (ns : List Int), ns.length ≤ n → SqL K H a (ns.map V.int) → sp K [.ref a] H (fun v _ => v = .bl true) E0) : PySem.W.WalkO prog loose XP YP l.row.toRowW d [] (fun f vs => PySem.call f vs) := by
  apply Att.attach_call most plain
  intro w _ t mg mb f o pm cd doc a vs ns G Y _ _ _ named obj nums len gens
  obtain ⟨fd, bind, promise⟩ := F w mg f _ (kin w _ Y) G.T.g named
  exact law_callG (kin w _ Y) G.T.g G.T.b G.T.builtins G.T.nolimit gens obj nums (Nat.le_trans len fit) hr promise bind fun H hS => hsp _ H a ns len hS
end Tk
/-! The text by places; small words about heaps. -/
namespace Tk
open PySem L2
def topS (i : Nat) : Stmt := PySem.Challenge.pw_tickshares_k19_whole_simplest_shares.main.body.getD i (.Pass ⟨0, 0, 0, 0⟩)
abbrev sDivisor : Stmt := topS 4
abbrev sLowest : Stmt := topS 5
abbrev sLess : Stmt := topS 6
abbrev sIsInt : Stmt := topS 9
abbrev sBetween : Stmt := topS 10
abbrev sCheck : Stmt := topS 12
abbrev sBounds : Stmt := topS 13
abbrev sLeastTop : Stmt := topS 14
abbrev sLeastIn : Stmt := topS 15
abbrev sSimplest : Stmt := topS 16
abbrev sBasin : Stmt := topS 18
abbrev sLadle : Stmt := topS 19
abbrev sLLow : Stmt := topS 20
abbrev sLog : Stmt := topS 21
abbrev sEdges : Stmt := topS 22
abbrev sSuits : Stmt := topS 23
abbrev sFirst : Stmt := topS 24
abbrev sLogRight : Stmt := topS 25
abbrev sRight : Stmt := topS 26
abbrev sLaw : Stmt := topS 27

/-! ### heaps -/
theorem same_new {H : Hp} {p : Addr} {o : HO} (h : H p = none) : Same H (upd H p o) := fun b x e => by
  rw [upd_ne (ne_of_none e h)]
  exact e
/-- all but b stands as it stood -/
def SameX (b : Addr) (H H' : Hp) : Prop := ∀ c o, c ≠ b → H c = some o → H' c = some o
theorem SameX.refl (b : Addr) (H : Hp) : SameX b H H := fun _ _ _ h => h
theorem SameX.trans {b : Addr} {H H1 H2 : Hp} (a : SameX b H H1) (c : SameX b H1 H2) : SameX b H H2 := fun d o n h => c d o n (a d o n h)
theorem toX {b : Addr} {H H' : Hp} (a : Same H H') : SameX b H H' := fun c o _ h => a c o h
theorem sameX_upd {b : Addr} {H : Hp} {o : HO} : SameX b H (upd H b o) := fun c x n e => by
  rw [upd_ne n]
  exact e
theorem SameX.seq {K : PySem.W.Frag} {b : Addr} {H H' : Hp} {a : Addr} {xs : List V} (e : SameX b H H') (h : SqL K H a xs) (n : a ≠ b) : SqL K H' a xs := by
  exact h.imp (fun r => r.imp (e _ _ n) fun ⟨o, k⟩ => ⟨o, e _ _ n k⟩) id
/-- a list of three ints stands at b -/
def Basin (H : Hp) (b : Addr) : Prop := ∃ x y z : Int, H b = some (.lst [.int x, .int y, .int z])
/-- x / y is A / B, and small -/
structure Near (x y A B : Int) : Prop where
  pos : 1 ≤ y
  nn : 0 ≤ x
  lx : x ≤ 1000
  ly : y ≤ 1000
  eq : x * B = A * y
theorem cmul_left {i j : Int} (h0 : -1000000 ≤ i) (h1 : i ≤ 1000000) : CMul i j := .inl ⟨by omega, by omega⟩
theorem cmul_right {i j : Int} (h0 : -1000000 ≤ j) (h1 : j ≤ 1000000) : CMul i j := .inr ⟨by omega, by omega⟩

/-! ### scopes -/
theorem scDivisor : FnScope ["one", "other"] ["one", "other"] (defScope sDivisor) := ⟨rfl, rfl, rfl, by decide +kernel, rfl, by decide +kernel, by decide +kernel⟩
theorem scLowest : FnScope ["top", "bottom", "shared"] ["top", "bottom"] (defScope sLowest) := ⟨rfl, rfl, rfl, by decide +kernel, rfl, by decide +kernel, by decide +kernel⟩
theorem scLess : FnScope ["one", "other"] ["one", "other"] (defScope sLess) := ⟨rfl, rfl, rfl, by decide +kernel, rfl, by decide +kernel, by decide +kernel⟩
theorem scIsInt : FnScope ["value"] ["value"] (defScope sIsInt) := ⟨rfl, rfl, rfl, by decide +kernel, rfl, by decide +kernel, by decide +kernel⟩
theorem scBetween : FnScope ["value", "low", "high"] ["value", "low", "high"] (defScope sBetween) := ⟨rfl, rfl, rfl, by decide +kernel, rfl, by decide +kernel, by decide +kernel⟩
theorem scCheck : FnScope ["log", "at", "had"] ["log"] (defScope sCheck) := ⟨rfl, rfl, rfl, by decide +kernel, rfl, by decide +kernel, by decide +kernel⟩
theorem scBounds : FnScope ["log", "low", "high", "had", "at", "one", "least", "most"] ["log"] (defScope sBounds) := ⟨rfl, rfl, rfl, by decide +kernel, rfl, by decide +kernel, by decide +kernel⟩
theorem scLeastTop : FnScope ["low", "bottom"] ["low", "bottom"] (defScope sLeastTop) := ⟨rfl, rfl, rfl, by decide +kernel, rfl, by decide +kernel, by decide +kernel⟩
theorem scLeastIn : FnScope ["ends", "top", "bottom"] ["ends", "top", "bottom"] (defScope sLeastIn) := ⟨rfl, rfl, rfl, by decide +kernel, rfl, by decide +kernel, by decide +kernel⟩
theorem scSimplest : FnScope ["log", "ends", "bottom"] ["log"] (defScope sSimplest) := ⟨rfl, rfl, rfl, by decide +kernel, rfl, by decide +kernel, by decide +kernel⟩
theorem scBasin : FnScope ["_law_script", "_law_at", "_law_own", "_law_swirled", "_law_each"] ["_law_script", "_law_at"] (defScope sBasin) := ⟨rfl, rfl, rfl, by decide +kernel, rfl, by decide +kernel, by decide +kernel⟩
theorem scLadle : FnScope ["_law_basin_here", "_law_many", "_law_digit", "_law_swirled"] ["_law_basin_here", "_law_many"] (defScope sLadle) := ⟨rfl, rfl, rfl, by decide +kernel, rfl, by decide +kernel, by decide +kernel⟩
theorem scLLow : FnScope ["_law_top", "_law_bottom", "_law_a", "_law_b"] ["_law_top", "_law_bottom"] (defScope sLLow) := ⟨rfl, rfl, rfl, by decide +kernel, rfl, by decide +kernel, by decide +kernel⟩
theorem scLog : FnScope ["_law_basin_here", "_law_most", "_law_size", "_law_way_here", "_law_bottom", "_law_e", "_law_p", "_law_had", "_law_found", "_law_t", "_law_one", "_law_some", "_law_at"] ["_law_basin_here", "_law_most"] (defScope sLog) := ⟨rfl, rfl, rfl, by decide +kernel, rfl, by decide +kernel, by decide +kernel⟩
theorem scEdges : FnScope ["_law_told_ticks", "_law_low", "_law_high", "_law_had", "_law_t"] ["_law_told_ticks"] (defScope sEdges) := ⟨rfl, rfl, rfl, by decide +kernel, rfl, by decide +kernel, by decide +kernel⟩
theorem scSuits : FnScope ["_law_told_ticks", "_law_e", "_law_p", "_law_had", "_law_t"] ["_law_told_ticks", "_law_e", "_law_p"] (defScope sSuits) := ⟨rfl, rfl, rfl, by decide +kernel, rfl, by decide +kernel, by decide +kernel⟩
theorem scFirst : FnScope ["_law_low", "_law_high", "_law_p", "_law_e"] ["_law_low", "_law_high"] (defScope sFirst) := ⟨rfl, rfl, rfl, by decide +kernel, rfl, by decide +kernel, by decide +kernel⟩
theorem scLogRight : FnScope ["_law_told_ticks", "_law_low", "_law_high", "_law_due", "_law_p", "_law_e"] ["_law_told_ticks"] (defScope sLogRight) := ⟨rfl, rfl, rfl, by decide +kernel, rfl, by decide +kernel, by decide +kernel⟩
theorem scRight : FnScope ["_law_basin_here", "_law_logs", "_law_step", "_law_told_ticks"] ["_law_basin_here"] (defScope sRight) := ⟨rfl, rfl, rfl, by decide +kernel, rfl, by decide +kernel, by decide +kernel⟩
theorem scLaw : FnScope ["_law_script", "_law_at"] ["_law_script"] (defScope sLaw) := ⟨rfl, rfl, rfl, by decide +kernel, rfl, by decide +kernel, by decide +kernel⟩
end Tk
/-! divisor, lowest, is_less, is_integer, is_between -/
namespace Tk
open PySem L2
/-- what the top has of the built-ins' names, and of the one constant -/
structure Top (mg : Str → Option Value) : Prop where
  isi : mg "isinstance" = none
  int : mg "int" = none
  bool : mg "bool" = none
  tup : mg "tuple" = none
  enum : mg "enumerate" = none
  max : mg "max" = none
  min : mg "min" = none
  len : mg "len" = none
  abs : mg "abs" = none
  divmod : mg "divmod" = none
  range : mg "range" = none
  repr : mg "repr" = none
  most : ∃ t, mg "MOST_LOG" = some (.int 200 t)
/-- a def of the text stands at f under its name -/
structure At (K : PySem.W.Frag) (mg : Str → Option Value) (x : Str) (ps : List Str) (st : Stmt) (f : Addr) (fd : FuncData) : Prop where
  F : Fun K x x st f fd
  b : Binds K fd ps []
  g : mg x = some (.ref f)
section
variable {P : Program} {w : World} {K : PySem.W.Frag} {mg : Str → Option Value} {base : Heap} {f g : Addr} {fd gd : FuncData}

/-! ### divisor -/
def spDivisor : Sp := fun vs H Q _ => ∃ a b : Int, vs = [.int a, .int b] ∧ 0 ≤ a ∧ 0 ≤ b ∧ Q (.int (Int.gcd a b)) H
theorem gcd_turn {x y : Int} (hx : 0 ≤ x) (hy : 0 ≤ y) : Int.gcd y (x % y) = Int.gcd x y := by
  obtain ⟨⟨n, rfl⟩, ⟨m, rfl⟩⟩ := And.intro (Int.eq_ofNat_of_zero_le hx) (Int.eq_ofNat_of_zero_le hy)
  rw [← Int.natCast_emod]
  show Nat.gcd m (n % m) = Nat.gcd n m
  rw [Nat.gcd_comm m (n % m), ← Nat.gcd_rec, Nat.gcd_comm]
theorem ok_divisor (F : Fun K "divisor" "divisor" sDivisor f fd) : FnOk P w K mg base CX0 1 f fd ["one", "other"] spDivisor := by
  refine F.ok scDivisor (fun vs H Q E h => ?_) (fun cdv A outer s H vs Q E hr h => ?_)
  · obtain ⟨a, b, rfl, _⟩ := h
    rfl
  obtain ⟨a, b, rfl, ha, hb, q⟩ := h
  refine ⟨_, pss_cons (ps_while PassesOwn.never (pt_cmpR op_gt (pv 1) pe_int (nomark _))
      (pss_one (ps_par (i := 0) (j := 1) rfl scDivisor.nd rfl rfl (by decide) rfl rfl (pa_cons (pv 1) (pa_cons (pe_op op_mod (pv 0) (pv 1)) pa_nil)) (by rfl))))
    (pss_one (ps_ret (pv 0))), ?_⟩
  refine ⟨fun m σ H' => H' = H ∧ ∃ x y : Int, σ = [some (.int x), some (.int y)] ∧ m = y.toNat ∧ 0 ≤ x ∧ 0 ≤ y ∧ Int.gcd x y = Int.gcd a b, ⟨_, rfl, a, b, rfl, rfl, ha, hb, rfl⟩, fun m σ H' hw => ?_⟩
  obtain ⟨rfl, x, y, rfl, rfl, hx, hy, e⟩ := hw
  refine ⟨_, rfl, _, _, rfl, rfl, _, rfl, ite2 (fun c => ?_) (fun c => ?_)⟩
  · have c' : 0 < y := of_decide_eq_true c
    refine ⟨fun σ' H2 => H2 = H' ∧ σ' = [some (.int y), some (.int (x % y))], fun σ' H2 hN => ?_, ?_⟩
    · obtain ⟨rfl, rfl⟩ := hN
      have l1 := Int.emod_lt_of_pos x c'
      have l0 := Int.emod_nonneg x (show y ≠ 0 by omega)
      exact ⟨(x % y).toNat, by omega, rfl, y, x % y, rfl, rfl, hy, l0, (gcd_turn hx hy).trans e⟩
    · exact ⟨_, rfl, _, rfl, _, rfl, _, _, rfl, rfl, c', _, _, rfl, rfl, rfl⟩
  · have c' : ¬ 0 < y := of_decide_eq_false (Bool.eq_false_iff.mpr c)
    obtain rfl : y = 0 := by omega
    have e2 : ((Int.gcd a b : Nat) : Int) = x := by
      rw [← e, Int.gcd_zero_right]
      omega
    rw [e2] at q
    exact ⟨_, rfl, q⟩

/-! ### lowest -/
def spLowest : Sp := fun vs H Q _ => ∃ a b : Int, vs = [.int a, .int b] ∧ 0 ≤ a ∧ a ≤ 1000 ∧ 1 ≤ b ∧ b ≤ 1000 ∧ ∀ H' p x y, Same H H' → H p = none → H' p = some (.tup [.int x, .int y]) → Near x y a b → Q (.ref p) H'
theorem near_gcd {a b : Int} (ha : 0 ≤ a) (la : a ≤ 1000) (hb : 1 ≤ b) (lb : b ≤ 1000) : Near (a / (Int.gcd b a : Nat)) (b / (Int.gcd b a : Nat)) a b ∧ 0 < ((Int.gcd b a : Nat) : Int) ∧ ((Int.gcd b a : Nat) : Int) < 1073741824 := by
  have g0 : Int.gcd b a ≠ 0 := fun z => by
    have := (Int.gcd_eq_zero_iff.mp z).1
    omega
  obtain ⟨b', eb⟩ := Int.gcd_dvd_left b a
  obtain ⟨a', ea⟩ := Int.gcd_dvd_right b a
  have gl : ((Int.gcd b a : Nat) : Int) ≤ b := Int.le_of_dvd (by omega) (Int.gcd_dvd_left b a)
  generalize Int.gcd b a = g at *
  have gp : (0 : Int) < (g : Int) := by omega
  have e1 : a / (g : Int) = a' := by rw [ea]; exact Int.mul_ediv_cancel_left _ (by omega)
  have e2 : b / (g : Int) = b' := by rw [eb]; exact Int.mul_ediv_cancel_left _ (by omega)
  rw [e1, e2]
  have p1 : 0 < b' := by
    have : 0 < (g : Int) * b' := by rw [← eb]; omega
    exact Int.pos_of_mul_pos_right this gp
  have p0 : 0 ≤ a' := by rw [← e1]; exact Int.ediv_nonneg ha (by omega)
  have l1 : a' ≤ a := by rw [← e1]; exact Int.ediv_le_self _ ha
  have l2 : b' ≤ b := by rw [← e2]; exact Int.ediv_le_self _ (by omega)
  refine ⟨⟨by omega, p0, by omega, by omega, ?_⟩, gp, by omega⟩
  rw [eb, ea]
  ac_rfl
theorem ok_lowest (F : Fun K "lowest" "lowest" sLowest f fd) (D : At K mg "divisor" ["one", "other"] sDivisor g gd) : FnOk P w K mg base CX0 2 f fd ["top", "bottom"] spLowest := by
  have GD : FnOk P w K mg base CX0 1 g gd ["one", "other"] spDivisor := ok_divisor D.F
  refine F.ok scLowest (fun vs H Q E h => ?_) (fun cdv A outer s H vs Q E hr h => ?_)
  · obtain ⟨a, b, rfl, _⟩ := h
    rfl
  obtain ⟨a, b, rfl, ha, la, hb, lb, q⟩ := h
  refine ⟨_, pss_cons (ps_set (i := 2) scLowest.nd rfl (.inl rfl) (pe_call GD hr (by rfl) D.g D.F.kp D.b .nil pass0 (pa_cons (pv 1) (pa_cons (pv 0) pa_nil))))
    (pss_one (ps_ret (pe_tup (pa_cons (pe_op op_fdiv (pv 0) (pv 2)) (pa_cons (pe_op op_fdiv (pv 1) (pv 2)) pa_nil))))), ?_⟩
  obtain ⟨N, g0, g1⟩ := near_gcd ha la hb lb
  refine ⟨_, rfl, _, rfl, b, a, rfl, by omega, ha, ?_⟩
  refine ⟨_, rfl, _, rfl, _, _, rfl, rfl, ⟨g0, g1⟩, _, rfl, _, rfl, _, _, rfl, rfl, ⟨g0, g1⟩, (by show 2 ≤ sizeLine; decide), fun p hp => ?_⟩
  exact q _ p _ _ (same_new hp) hp upd_same N

/-! ### is_less -/
def spLess (K : PySem.W.Frag) : Sp := fun vs H Q _ => ∃ (p r : Addr) (a b c d : Int), vs = [.ref p, .ref r] ∧ SqT K H p [.int a, .int b] ∧ SqT K H r [.int c, .int d] ∧ CMul a d ∧ CMul c b ∧ Q (.bl (decide (a * d < c * b))) H
theorem ok_less (F : Fun K "is_less" "is_less" sLess f fd) : FnOk P w K mg base CX0 1 f fd ["one", "other"] (spLess K) := by
  refine F.ok scLess (fun vs H Q E h => ?_) (fun cdv A outer s H vs Q E hr h => ?_)
  · obtain ⟨_, _, _, _, _, _, rfl, _⟩ := h
    rfl
  obtain ⟨p, r, a, b, c, d, rfl, hp, hR, m1, m2, q⟩ := h
  refine ⟨_, pss_one (ps_ret (pe_cmpR op_lt (pe_op op_mul (pe_ix ix_tup (pv 0) pe_int (fun _ _ => rfl)) (pe_ix ix_tup (pv 1) pe_int (fun _ _ => rfl)))
    (pe_op op_mul (pe_ix ix_tup (pv 1) pe_int (fun _ _ => rfl)) (pe_ix ix_tup (pv 0) pe_int (fun _ _ => rfl))) (nomark _))), ?_⟩
  refine ⟨_, rfl, p, _, 0, .int a, rfl, rfl, hp, atI_nat (j := 0) rfl, _, rfl, r, _, 1, .int d, rfl, rfl, hR, atI_nat (j := 1) rfl, a, d, rfl, rfl, m1, ?_⟩
  exact ⟨_, rfl, r, _, 0, .int c, rfl, rfl, hR, atI_nat (j := 0) rfl, _, rfl, p, _, 1, .int b, rfl, rfl, hp, atI_nat (j := 1) rfl, c, b, rfl, rfl, m2, _, _, rfl, rfl, q⟩

/-! ### is_integer, is_between -/
def spIsInt : Sp := fun vs H Q _ => ∃ i : Int, vs = [.int i] ∧ Q (.bl true) H
theorem ok_isInt (F : Fun K "is_integer" "is_integer" sIsInt f fd) (T : Top mg) : FnOk P w K mg base CX0 1 f fd ["value"] spIsInt := by
  refine F.ok scIsInt (fun vs H Q E h => ?_) (fun cdv A outer s H vs Q E hr h => ?_)
  · obtain ⟨_, rfl, _⟩ := h
    rfl
  obtain ⟨i, rfl, q⟩ := h
  refine ⟨_, pss_one (ps_ret (pe_and (pe_callB call_isi (by rfl) T.isi (by decide +kernel) (pa_cons (pv 0) (pa_cons (pe_bltn (v := .ty "int") (by rfl) T.int PyProof.Rows.boot_int (by exact rfl)) pa_nil)))
    (pe_one (pe_not (pe_callB call_isi (by rfl) T.isi (by decide +kernel) (pa_cons (pv 0) (pa_cons (pe_bltn (v := .ty "bool") (by rfl) T.bool PyProof.Rows.boot_bool (by exact rfl)) pa_nil))))))), ?_⟩
  refine ⟨_, rfl, _, _, _, _, true, rfl, .ty _, .base (.int i), kit_ty (by decide +kernel), true, rfl, iteT ?_⟩
  exact ⟨_, rfl, _, _, _, _, false, rfl, .ty _, .base (.int i), kit_ty (by decide +kernel), false, rfl, q⟩
def spBetween : Sp := fun vs H Q _ => ∃ i l h : Int, vs = [.int i, .int l, .int h] ∧ l ≤ i ∧ i ≤ h ∧ Q (.bl true) H
theorem ok_between (F : Fun K "is_between" "is_between" sBetween f fd) (D : At K mg "is_integer" ["value"] sIsInt g gd) (T : Top mg) : FnOk P w K mg base CX0 2 f fd ["value", "low", "high"] spBetween := by
  have GD : FnOk P w K mg base CX0 1 g gd ["value"] spIsInt := ok_isInt D.F T
  refine F.ok scBetween (fun vs H Q E h => ?_) (fun cdv A outer s H vs Q E hr h => ?_)
  · obtain ⟨_, _, _, rfl, _⟩ := h
    rfl
  obtain ⟨i, l, h, rfl, h1, h2, q⟩ := h
  refine ⟨_, pss_one (ps_ret (pe_and (pe_call GD hr (by rfl) D.g D.F.kp D.b .nil pass0 (pa_cons (pv 0) pa_nil)) (pe_one (pe_chain op_le op_le (pv 1) (pv 0) (pv 2))))), ?_⟩
  refine ⟨_, rfl, i, rfl, true, rfl, iteT ?_⟩
  refine ⟨_, rfl, _, rfl, _, _, rfl, rfl, _, rfl, ?_⟩
  rw [decide_eq_true h1]
  refine iteT ⟨_, rfl, _, _, rfl, rfl, ?_⟩
  show Q (.bl (decide (i ≤ h))) H
  rw [decide_eq_true h2]
  exact q
end
end Tk
/-! check_log, bounds, least_top, is_least_in, simplest -/
namespace Tk
open PySem L2
/-- a log of the law's: its ticks, at a -/
structure Ticks (H : Hp) (a : Addr) (ns : List Int) : Prop where
  at_ : H a = some (.tup (ns.map V.int))
  bits : Bits ns
  lo : 1 ≤ ns.length
  hi : ns.length ≤ 200
theorem Ticks.same {H H' : Hp} {a : Addr} {ns : List Int} (t : Ticks H a ns) (e : Same H H') : Ticks H' a ns := ⟨e _ _ t.at_, t.bits, t.lo, t.hi⟩
theorem Ticks.get {H : Hp} {a : Addr} {ns : List Int} (t : Ticks H a ns) {i : Nat} (hi : i < ns.length) : (ns.map V.int)[i]? = some (.int ns[i]) := by
  rw [List.getElem?_map, List.getElem?_eq_getElem hi]
  rfl
theorem Ticks.bit {H : Hp} {a : Addr} {ns : List Int} (t : Ticks H a ns) {i : Nat} (hi : i < ns.length) : 0 ≤ ns[i] ∧ ns[i] ≤ 1 := by
  have := t.bits _ (List.getElem_mem hi)
  omega
theorem eqv_int_nil (ns : List Int) (h : 1 ≤ ns.length) : PyData.eqv (.tuple (ns.map PyData.int)) (.tuple []) = false := by
  cases ns with
  | nil => simp at h
  | cons x r => simp [PyData.eqv, PyData.eqvAll]
theorem lay_ints : ∀ ns : List Int, PyData.canLayAll0 (ns.map PyData.int) = true
  | [] => by rw [List.map_nil, PyData.canLayAll0]
  | z :: zs => by simp [PyData.canLayAll0, PyData.canLay0, lay_ints zs]
theorem depth_ints : ∀ ns : List Int, PyData.depthAll (ns.map PyData.int) = 0
  | [] => by rw [List.map_nil, PyData.depthAll]
  | z :: zs => by simp [PyData.depthAll, PyData.depth, depth_ints zs]
theorem shaped_ints (ns : List Int) : SeqAt.shaped (.tuple (ns.map PyData.int)) = true := by
  show (PyData.canLay0 (.tuple (ns.map PyData.int)) && decide (PyData.depth (.tuple (ns.map PyData.int)) ≤ 64)) = true
  rw [Bool.and_eq_true]
  refine ⟨by simp only [PyData.canLay0]; exact lay_ints ns, decide_eq_true ?_⟩
  simp only [PyData.depth, depth_ints]
  decide
theorem dp_ints {K : PySem.W.Frag} {H : Hp} : ∀ ns : List Int, DpAll K H (ns.map V.int) (ns.map PyData.int)
  | [] => .nil
  | z :: zs => .cons (.int z) (dp_ints zs)
section
variable {P : Program} {w : World} {K : PySem.W.Frag} {mg : Str → Option Value} {base : Heap} {f g g2 g3 g4 : Addr} {fd gd gd2 gd3 gd4 : FuncData}

/-! ### check_log -/
def spCheck : Sp := fun vs H Q _ => ∃ (a : Addr) (ns : List Int), vs = [.ref a] ∧ Ticks H a ns ∧ ∀ H', Same H H' → Q .non H'
theorem ok_check (F : Fun K "check_log" "check_log" sCheck f fd) (D : At K mg "is_between" ["value", "low", "high"] sBetween g gd) (D2 : At K mg "is_integer" ["value"] sIsInt g2 gd2) (T : Top mg) : FnOk P w K mg base CX0 3 f fd ["log"] spCheck := by
  have GD : FnOk P w K mg base CX0 2 g gd ["value", "low", "high"] spBetween := ok_between D.F D2 T
  refine F.ok scCheck (fun vs H Q E h => ?_) (fun cdv A outer s H vs Q E hr h => ?_)
  · obtain ⟨_, _, rfl, _⟩ := h
    rfl
  obtain ⟨a, ns, rfl, t, q⟩ := h
  obtain ⟨tk, hM⟩ := T.most
  refine ⟨_, pss_cons (ps_if (PW.pt (pw_or (pt_not (pt_val (pe_callB call_isi (by rfl) T.isi (by decide +kernel) (pa_cons (pv 0) (pa_cons (pe_bltn (v := .ty "tuple") (by rfl) T.tup PyProof.Rows.boot_tuple (by exact rfl)) pa_nil)))))
        (pw_or1 (pt_cmpR (op_eqD hr.units) (pv 0) (pe_tup pa_nil) (nomark _))))) (pss_one ps_never) pss_nil)
    (pss_one (ps_for PassesOwn.never rfl (pi_enumT (by rfl) T.enum (pa_cons (pv 0) pa_nil)) (pg_tup rfl (pgs_cons (pg_name (i := 1) scCheck.nd rfl (.inl rfl)) (pgs_cons (pg_name (i := 2) scCheck.nd rfl (.inl rfl)) pgs_nil)))
      (pss_one (ps_if (PW.pt (pw_or (pt_cmpR op_eq (pv 1) (pe_glob (v := .int 200) rfl hM ⟨_, rfl⟩) (nomark _)) (pw_or1 (pt_not (pt_val (pe_call GD hr (by rfl) D.g D.F.kp D.b .nil pass0 (pa_cons (pv 2) (pa_cons pe_int (pa_cons pe_int pa_nil)))))))))
        (pss_one ps_never) pss_nil)))), ?_⟩
  refine ⟨_, rfl, _, _, _, _, true, rfl, .ty _, .base (.tup t.at_), kit_ty (by decide +kernel), true, rfl, iteF ?_⟩
  refine ⟨_, rfl, (by show 0 ≤ sizeLine; decide), fun p hp => ?_⟩
  have s1 : Same H (upd H p (.tup [])) := same_new hp
  refine ⟨.tuple (ns.map PyData.int), .tuple [], .tup (.of (s1 _ _ t.at_)) (dp_ints ns), .tup (.of upd_same) .nil, shaped_ints ns, by decide +kernel, _, rfl, ?_⟩
  rw [eqv_int_nil ns t.lo]
  refine iteF ?_
  refine ⟨.ref a, rfl, a, ns.map V.int, rfl, .of (s1 _ _ t.at_), ?_⟩
  refine for_it (walk_enumT (K := K) (a := a) (xs := ns.map V.int)) (fun i σ H' => ∃ y z, σ = [some (.ref a), y, z] ∧ Same H H') ⟨none, none, rfl, s1⟩ (fun i σ H' _ hP => ?_) (fun i x σ H' H2 hi hP hy => ?_) (fun σ H' hP => ?_)
  · obtain ⟨_, _, _, sm⟩ := hP
    exact .of (sm _ _ t.at_)
  · obtain ⟨y, z, rfl, sm⟩ := hP
    obtain ⟨tp, x1, x2, rfl, np, rfl, e1, e2⟩ := hy
    rw [List.length_map] at hi
    obtain rfl : .int (i : Nat) = x1 := Option.some.inj e1
    obtain rfl : .int ns[i] = x2 := Option.some.inj ((t.get hi).symm.trans e2)
    have b := t.bit hi
    have hh := t.hi
    refine ⟨tp, _, rfl, .of upd_same, rfl, _, _, rfl, _, _, rfl, rfl, ?_⟩
    refine ⟨_, rfl, rfl, _, rfl, ?_⟩
    rw [decide_eq_false (show ¬ V.int (i : Nat) = V.int 200 from fun z => by have := V.int.inj z; omega)]
    refine iteF ⟨_, rfl, _, _, _, rfl, b.1, b.2, true, rfl, iteF ?_⟩
    exact ⟨_, _, rfl, sm.trans (same_new np)⟩
  · obtain ⟨_, _, _, sm⟩ := hP
    exact q _ sm
end
end Tk
/-! bounds -/
namespace Tk
open PySem L2
theorem near_less {x y A B u v C D : Int} (n : Near x y A B) (m : Near u v C D) (hB : 0 < B) (hD : 0 < D) : x * v < u * y ↔ A * D < C * B :=
  (less_cross_right (e := x) (p := y) m.eq (by have := m.pos; omega) hD).trans (less_cross_left (e := C) (p := D) n.eq (by have := n.pos; omega) hB)
theorem Near.cmul {x y A B : Int} (n : Near x y A B) (j : Int) : CMul x j := cmul_left (by have := n.nn; omega) (by have := n.lx; omega)
theorem Near.mono {x y A B : Int} {C D : Int} (n : Near x y A B) (h1 : A = C) (h2 : B = D) : Near x y C D := by
  subst h1 h2
  exact n
section
variable {P : Program} {w : World} {K : PySem.W.Frag} {mg : Str → Option Value} {base : Heap} {f g g2 g3 g4 g5 g6 : Addr} {fd gd gd2 gd3 gd4 gd5 gd6 : FuncData}
abbrev lowN (ns : List Int) : Int × Int := lowAt ns ns.length
abbrev highN (ns : List Int) : Int × Int := highAt ns ns.length
/-- some number lies between the edges -/
def Fits (ns : List Int) : Prop := (lowN ns).1 * (highN ns).2 < (highN ns).1 * (lowN ns).2
def spBounds : Sp := fun vs H Q _ => ∃ (a : Addr) (ns : List Int), vs = [.ref a] ∧ Ticks H a ns ∧ (¬ Fits ns → ∀ H', Same H H' → Q .non H') ∧
  (Fits ns → ∀ H' p l h x y u v, Same H H' → H' p = some (.tup [.ref l, .ref h]) → H' l = some (.tup [.int x, .int y]) → H' h = some (.tup [.int u, .int v]) →
    Near x y (lowN ns).1 (lowN ns).2 → Near u v (highN ns).1 (highN ns).2 → Q (.ref p) H')
theorem ok_bounds (F : Fun K "bounds" "bounds" sBounds f fd) (DC : At K mg "check_log" ["log"] sCheck g gd) (DB : At K mg "is_between" ["value", "low", "high"] sBetween g2 gd2) (DI : At K mg "is_integer" ["value"] sIsInt g3 gd3)
    (DL : At K mg "lowest" ["top", "bottom"] sLowest g4 gd4) (DD : At K mg "divisor" ["one", "other"] sDivisor g5 gd5) (DS : At K mg "is_less" ["one", "other"] sLess g6 gd6) (T : Top mg) : FnOk P w K mg base CX0 4 f fd ["log"] spBounds := by
  have GC : FnOk P w K mg base CX0 3 g gd ["log"] spCheck := ok_check DC.F DB DI T
  have GL : FnOk P w K mg base CX0 2 g4 gd4 ["top", "bottom"] spLowest := ok_lowest DL.F DD
  have GS : FnOk P w K mg base CX0 1 g6 gd6 ["one", "other"] (spLess K) := ok_less DS.F
  refine F.ok scBounds (fun vs H Q E h => ?_) (fun cdv A outer s H vs Q E hr h => ?_)
  · obtain ⟨_, _, rfl, _⟩ := h
    rfl
  obtain ⟨a, ns, rfl, t, qN, qS⟩ := h
  have hr2 : Room 2 _ := hr.mono (by decide)
  have hr1 : Room 1 _ := hr.mono (by decide)
  refine ⟨_, pss_cons (ps_expr (pe_call GC hr (by rfl) DC.g DC.F.kp DC.b .nil pass0 (pa_cons (pv 0) pa_nil)))
    (pss_cons (ps_asg (pe_tup (pa_cons (pe_tup (pa_cons pe_int (pa_cons pe_int pa_nil))) (pa_cons (pe_tup (pa_cons pe_int (pa_cons pe_int pa_nil))) (pa_cons pe_int pa_nil))))
      (pg_tup rfl (pgs_cons (pg_name (i := 1) scBounds.nd rfl (.inl rfl)) (pgs_cons (pg_name (i := 2) scBounds.nd rfl (.inl rfl)) (pgs_cons (pg_name (i := 3) scBounds.nd rfl (.inl rfl)) pgs_nil)))))
    (pss_cons (ps_for PassesOwn.never rfl (pi_enumT (by rfl) T.enum (pa_cons (pv 0) pa_nil)) (pg_tup rfl (pgs_cons (pg_name (i := 4) scBounds.nd rfl (.inl rfl)) (pgs_cons (pg_name (i := 5) scBounds.nd rfl (.inl rfl)) pgs_nil)))
      (pss_cons (ps_set (i := 3) scBounds.nd rfl (.inl rfl) (pe_op op_add (pv 3) (pv 5)))
      (pss_cons (ps_par (i := 6) (j := 7) rfl scBounds.nd rfl rfl (by decide) rfl rfl
        (pa_cons (pe_call GL hr2 (by rfl) DL.g DL.F.kp DL.b .nil pass0 (pa_cons (pe_callB (call_max2 rfl) (by rfl) T.max (by decide +kernel) (pa_cons pe_int (pa_cons (pe_op op_sub (pv 3) pe_int) pa_nil))) (pa_cons (pe_op op_add (pv 4) pe_int) pa_nil)))
        (pa_cons (pe_call GL hr2 (by rfl) DL.g DL.F.kp DL.b .nil pass0 (pa_cons (pe_op op_add (pv 3) pe_int) (pa_cons (pe_op op_add (pv 4) pe_int) pa_nil))) pa_nil)) (by rfl))
      (pss_cons (ps_set (i := 1) scBounds.nd rfl (.inl rfl) (pe_ifExp (pt_val (pe_call GS hr1 (by rfl) DS.g DS.F.kp DS.b .nil pass0 (pa_cons (pv 1) (pa_cons (pv 6) pa_nil)))) (pv 6) (pv 1)))
      (pss_one (ps_set (i := 2) scBounds.nd rfl (.inl rfl) (pe_ifExp (pt_val (pe_call GS hr1 (by rfl) DS.g DS.F.kp DS.b .nil pass0 (pa_cons (pv 7) (pa_cons (pv 2) pa_nil)))) (pv 7) (pv 2))))))))
    (pss_one (ps_ret (pe_ifExp (pt_val (pe_call GS hr1 (by rfl) DS.g DS.F.kp DS.b .nil pass0 (pa_cons (pv 1) (pa_cons (pv 2) pa_nil)))) (pe_tup (pa_cons (pv 1) (pa_cons (pv 2) pa_nil))) pe_non))))), ?_⟩
  -- check_log(log)
  refine ⟨_, rfl, a, ns, rfl, t, fun H1 s1 => ?_⟩
  -- (0, 1), (2, 1), 0
  refine ⟨(by show 2 ≤ sizeLine; decide), fun l0 n0 => ⟨(by show 2 ≤ sizeLine; decide), fun h0 m0 => ⟨(by show 3 ≤ sizeLine; decide), fun t0 k0 => ?_⟩⟩⟩
  have sT := same_new (o := .tup [.ref l0, .ref h0, .int 0]) k0
  have eH0 := sT h0 (.tup [.int 2, .int 1]) upd_same
  have eL0 := sT _ _ (same_new (o := .tup [.int 2, .int 1]) m0 _ _ (upd_same (H := H1) (o := .tup [.int 0, .int 1])))
  have s2 := s1.trans ((same_new (o := .tup [.int 0, .int 1]) n0).trans ((same_new m0).trans sT))
  refine ⟨t0, _, rfl, .of upd_same, rfl, _, _, rfl, _, _, rfl, _, _, rfl, rfl, ?_⟩
  -- the loop
  refine ⟨.ref a, rfl, a, ns.map V.int, rfl, .of (s2 _ _ t.at_), ?_⟩
  refine for_it (walk_enumT (K := K) (a := a) (xs := ns.map V.int))
    (fun i σ H' => ∃ l h y4 y5 y6 y7 x y u v, σ = [some (.ref a), some (.ref l), some (.ref h), some (.int (had ns i)), y4, y5, y6, y7] ∧ Same H H' ∧ H' l = some (.tup [.int x, .int y]) ∧ H' h = some (.tup [.int u, .int v]) ∧
      Near x y (lowAt ns i).1 (lowAt ns i).2 ∧ Near u v (highAt ns i).1 (highAt ns i).2)
    ⟨l0, h0, none, none, none, none, 0, 1, 2, 1, rfl, s2, eL0, eH0, ⟨by decide, by decide, by decide, by decide, rfl⟩, ⟨by decide, by decide, by decide, by decide, rfl⟩⟩
    (fun i σ H' _ hP => ?_) (fun i x σ H' H2 hi hP hy => ?_) (fun σ H' hP => ?_)
  · obtain ⟨_, _, _, _, _, _, _, _, _, _, _, sm, _⟩ := hP
    exact .of (sm _ _ t.at_)
  · obtain ⟨l, h, y4, y5, y6, y7, x0, y0, u0, v0, rfl, sm, el, eh, nl, nh⟩ := hP
    obtain ⟨tp, z1, z2, rfl, np, rfl, e1, e2⟩ := hy
    rw [List.length_map] at hi
    obtain rfl : .int (i : Nat) = z1 := Option.some.inj e1
    obtain rfl : .int ns[i] = z2 := Option.some.inj ((t.get hi).symm.trans e2)
    have hh := t.hi
    have hd := had_bound t.bits (i + 1) (by omega)
    have hstep : had ns (i + 1) = had ns i + ns[i] := had_step (List.getElem?_eq_getElem hi)
    have L := lowOk t.bits i (by omega)
    have R := highOk t.bits i (by omega)
    have sp := same_new (o := .tup [.int (i : Nat), .int ns[i]]) np
    refine ⟨tp, _, rfl, .of upd_same, rfl, _, _, rfl, _, _, rfl, rfl, ?_⟩
    rw [hstep] at hd
    -- had = had + one
    refine ⟨_, rfl, _, rfl, _, _, rfl, rfl, ?_⟩
    -- lowest(max(0, had - 1), at + 1)
    refine ⟨_, rfl, _, _, rfl, rfl, 0, had ns i + ns[i] - 1, rfl, _, rfl, _, _, rfl, rfl, _, (i : Int) + 1, rfl, ?_, ?_, by omega, by omega, fun H3 p1 x1 y1 s3 n1 ep1 N1 => ?_⟩
    · split <;> omega
    · split <;> omega
    -- lowest(had + 1, at + 1)
    refine ⟨_, rfl, _, _, rfl, rfl, _, rfl, _, _, rfl, rfl, had ns i + ns[i] + 1, (i : Int) + 1, rfl, by omega, by omega, by omega, by omega, fun H4 p2 x2 y2 s4 n2 ep2 N2 => ?_⟩
    refine ⟨_, _, rfl, ?_⟩
    have el4 := s4 _ _ (s3 _ _ (sp _ _ el))
    have eh4 := s4 _ _ (s3 _ _ (sp _ _ eh))
    have ep14 := s4 _ _ ep1
    have sm4 : Same H H4 := sm.trans (sp.trans (s3.trans s4))
    have LPos := L.pos
    have RPos := R.pos
    have LNn := L.nn
    -- the two tests
    have ch : x0 * y1 < x1 * y0 ↔ (lowAt ns i).1 * ((i : Int) + 1) < (had ns (i + 1) - 1) * (lowAt ns i).2 := by
      rw [hstep]
      refine (near_less nl N1 (by omega) (by omega)).trans ?_
      split
      · exact Iff.rfl
      · rename_i c
        have k1 : (had ns i + ns[i] - 1) * (lowAt ns i).2 ≤ 0 * (lowAt ns i).2 := Int.mul_le_mul_of_nonneg_right (by omega) (by omega)
        have k2 : 0 ≤ (lowAt ns i).1 * ((i : Int) + 1) := Int.mul_nonneg LNn (by omega)
        rw [Int.zero_mul] at k1 ⊢
        omega
    have ch2 : x2 * v0 < u0 * y2 ↔ (had ns (i + 1) + 1) * (highAt ns i).2 < (highAt ns i).1 * ((i : Int) + 1) := by
      rw [hstep]
      exact near_less N2 nh (by omega) (by omega)
    -- what follows the choices
    have fin : ∀ l' h' x' y' u' v', H4 l' = some (.tup [.int x', .int y']) → H4 h' = some (.tup [.int u', .int v']) → Near x' y' (lowAt ns (i + 1)).1 (lowAt ns (i + 1)).2 → Near u' v' (highAt ns (i + 1)).1 (highAt ns (i + 1)).2 →
        ∃ l h y4 y5 y6 y7 x y u v, ([some (.ref a), some (.ref l'), some (.ref h'), some (.int (had ns i + ns[i])), some (.int (i : Nat)), some (.int ns[i]), some (.ref p1), some (.ref p2)] : St) = [some (.ref a), some (.ref l), some (.ref h), some (.int (had ns (i + 1))), y4, y5, y6, y7] ∧ Same H H4 ∧ H4 l = some (.tup [.int x, .int y]) ∧ H4 h = some (.tup [.int u, .int v]) ∧
          Near x y (lowAt ns (i + 1)).1 (lowAt ns (i + 1)).2 ∧ Near u v (highAt ns (i + 1)).1 (highAt ns (i + 1)).2 :=
      fun l' h' x' y' u' v' e1 e2 n1 n2 => ⟨l', h', _, _, _, _, x', y', u', v', by rw [hstep], sm4, e1, e2, n1, n2⟩
    have NL1 : x0 * y1 < x1 * y0 → Near x1 y1 (lowAt ns (i + 1)).1 (lowAt ns (i + 1)).2 := fun c => by
      have c' := ch.mp c
      have c2 : had ns i + ns[i] - 1 > 0 := by
        have k2 : 0 ≤ (lowAt ns i).1 * ((i : Int) + 1) := Int.mul_nonneg LNn (by omega)
        rcases Int.lt_or_le 0 (had ns i + ns[i] - 1) with z | z
        · exact z
        · have k1 : (had ns i + ns[i] - 1) * (lowAt ns i).2 ≤ 0 * (lowAt ns i).2 := Int.mul_le_mul_of_nonneg_right z (by omega)
          rw [hstep] at c'
          rw [Int.zero_mul] at k1
          omega
      rw [if_pos c2] at N1
      unfold lowAt
      rw [if_pos c', hstep]
      exact N1
    have NL2 : ¬ x0 * y1 < x1 * y0 → Near x0 y0 (lowAt ns (i + 1)).1 (lowAt ns (i + 1)).2 := fun c => by
      unfold lowAt
      rw [if_neg fun z => c (ch.mpr z)]
      exact nl
    have NH1 : x2 * v0 < u0 * y2 → Near x2 y2 (highAt ns (i + 1)).1 (highAt ns (i + 1)).2 := fun c => by
      unfold highAt
      rw [if_pos (ch2.mp c), hstep]
      exact N2
    have NH2 : ¬ x2 * v0 < u0 * y2 → Near u0 v0 (highAt ns (i + 1)).1 (highAt ns (i + 1)).2 := fun c => by
      unfold highAt
      rw [if_neg fun z => c (ch2.mpr z)]
      exact nh
    refine ⟨_, rfl, _, rfl, l, p1, x0, y0, x1, y1, rfl, .of el4, .of ep14, nl.cmul _, N1.cmul _, _, rfl, ite2 (fun c => ?_) (fun c => ?_)⟩
    · have c' := of_decide_eq_true c
      refine ⟨_, rfl, ?_⟩
      refine ⟨_, rfl, _, rfl, p2, h, x2, y2, u0, v0, rfl, .of ep2, .of eh4, N2.cmul _, nh.cmul _, _, rfl, ite2 (fun d => ?_) (fun d => ?_)⟩
      · exact ⟨_, rfl, fin p1 p2 x1 y1 x2 y2 ep14 ep2 (NL1 c') (NH1 (of_decide_eq_true d))⟩
      · exact ⟨_, rfl, fin p1 h x1 y1 u0 v0 ep14 eh4 (NL1 c') (NH2 fun z => d (decide_eq_true z))⟩
    · have c' : ¬ x0 * y1 < x1 * y0 := fun z => c (decide_eq_true z)
      refine ⟨_, rfl, ?_⟩
      refine ⟨_, rfl, _, rfl, p2, h, x2, y2, u0, v0, rfl, .of ep2, .of eh4, N2.cmul _, nh.cmul _, _, rfl, ite2 (fun d => ?_) (fun d => ?_)⟩
      · exact ⟨_, rfl, fin l p2 x0 y0 x2 y2 el4 ep2 (NL2 c') (NH1 (of_decide_eq_true d))⟩
      · exact ⟨_, rfl, fin l h x0 y0 u0 v0 el4 eh4 (NL2 c') (NH2 fun z => d (decide_eq_true z))⟩
  · obtain ⟨l, h, y4, y5, y6, y7, x, y, u, v, rfl, sm, el, eh, nl, nh⟩ := hP
    rw [List.length_map] at *
    have L := lowOk t.bits ns.length (Nat.le_refl _)
    have R := highOk t.bits ns.length (Nat.le_refl _)
    have ch : x * v < u * y ↔ Fits ns := near_less nl nh (Int.lt_of_lt_of_le (by decide) L.pos) (Int.lt_of_lt_of_le (by decide) R.pos)
    refine ⟨_, rfl, _, rfl, l, h, x, y, u, v, rfl, .of el, .of eh, nl.cmul _, nh.cmul _, _, rfl, ite2 (fun c => ?_) (fun c => ?_)⟩
    · have c' := ch.mp (of_decide_eq_true c)
      refine ⟨_, rfl, _, rfl, (by show 2 ≤ sizeLine; decide), fun p hp => ?_⟩
      have s2 := same_new (o := .tup [.ref l, .ref h]) hp
      exact qS c' _ p l h x y u v (sm.trans s2) upd_same (s2 _ _ el) (s2 _ _ eh) nl nh
    · exact qN (fun z => c (decide_eq_true (ch.mpr z))) _ sm
end
end Tk
/-! least_top, is_least_in, simplest -/
namespace Tk
open PySem L2
section
variable {P : Program} {w : World} {K : PySem.W.Frag} {mg : Str → Option Value} {base : Heap} {f g g2 g3 g4 g5 g6 g7 g8 g9 : Addr} {fd gd gd2 gd3 gd4 gd5 gd6 gd7 gd8 gd9 : FuncData}
def spLeastTop (K : PySem.W.Frag) : Sp := fun vs H Q _ => ∃ (p : Addr) (x y A B b : Int), vs = [.ref p, .int b] ∧ SqT K H p [.int x, .int y] ∧ Near x y A B ∧ 0 < B ∧ Q (.int (topOf A B b)) H
theorem ok_leastTop (F : Fun K "least_top" "least_top" sLeastTop f fd) : FnOk P w K mg base CX0 1 f fd ["low", "bottom"] (spLeastTop K) := by
  refine F.ok scLeastTop (fun vs H Q E h => ?_) (fun cdv A outer s H vs Q E hr h => ?_)
  · obtain ⟨_, _, _, _, _, _, rfl, _⟩ := h
    rfl
  obtain ⟨p, x, y, A, B, b, rfl, hp, n, hB, q⟩ := h
  refine ⟨_, pss_one (ps_ret (pe_op op_add (pe_op op_fdiv (pe_op op_mul (pe_ix ix_tup (pv 0) pe_int (fun _ _ => rfl)) (pv 1)) (pe_ix ix_tup (pv 0) pe_int (fun _ _ => rfl))) pe_int)), ?_⟩
  have yp := n.pos
  have yl := n.ly
  refine ⟨_, rfl, p, _, 0, .int x, rfl, rfl, hp, atI_nat (j := 0) rfl, _, rfl, x, b, rfl, rfl, n.cmul _, _, rfl, p, _, 1, .int y, rfl, rfl, hp, atI_nat (j := 1) rfl, _, _, rfl, rfl, ⟨by omega, by omega⟩, _, _, rfl, rfl, ?_⟩
  show Q (.int (x * b / y + 1)) H
  rw [floor_cross n.eq (by omega) hB]
  exact q
def spLeastIn (K : PySem.W.Frag) : Sp := fun vs H Q _ => ∃ (p l h : Addr) (u v C D t b : Int), vs = [.ref p, .int t, .int b] ∧ H p = some (.tup [.ref l, .ref h]) ∧ H h = some (.tup [.int u, .int v]) ∧ Near u v C D ∧ 0 < D ∧
  ((t ≤ b ∧ t * D < C * b) → ∀ H', Same H H' → Q (.bl true) H') ∧ (¬ (t ≤ b ∧ t * D < C * b) → ∀ H', Same H H' → Q (.bl false) H')
theorem ok_leastIn (F : Fun K "is_least_in" "is_least_in" sLeastIn f fd) (DS : At K mg "is_less" ["one", "other"] sLess g gd) : FnOk P w K mg base CX0 2 f fd ["ends", "top", "bottom"] (spLeastIn K) := by
  have GS : FnOk P w K mg base CX0 1 g gd ["one", "other"] (spLess K) := ok_less DS.F
  refine F.ok scLeastIn (fun vs H Q E h => ?_) (fun cdv A outer s H vs Q E hr h => ?_)
  · obtain ⟨_, _, _, _, _, _, _, _, _, rfl, _⟩ := h
    rfl
  obtain ⟨p, l, h, u, v, C, D, t, b, rfl, hp, hh, n, hD, q1, q0⟩ := h
  refine ⟨_, pss_one (ps_ret (pe_and (pe_cmpR op_le (pv 1) (pv 2) (nomark _)) (pe_one (pe_call GS hr (by rfl) DS.g DS.F.kp DS.b .nil pass0
    (pa_cons (pe_tup (pa_cons (pv 1) (pa_cons (pv 2) pa_nil))) (pa_cons (pe_ix ix_tup (pv 0) pe_int (fun _ _ => rfl)) pa_nil)))))), ?_⟩
  have vp := n.pos
  have vl := n.ly
  refine ⟨_, rfl, _, rfl, t, b, rfl, rfl, _, rfl, ite2 (fun c => ?_) (fun c => ?_)⟩
  · have c' : t ≤ b := of_decide_eq_true c
    refine ⟨_, rfl, _, rfl, (by show 2 ≤ sizeLine; decide), fun r hr' => ?_⟩
    have s1 := same_new (o := .tup [.int t, .int b]) hr'
    refine ⟨_, rfl, p, _, 1, .ref h, rfl, rfl, .of (s1 _ _ hp), atI_nat (j := 1) rfl, r, h, t, b, u, v, rfl, .of upd_same, .of (s1 _ _ hh), cmul_right (by omega) (by omega), n.cmul _, ?_⟩
    have e : t * v < u * b ↔ t * D < C * b := less_cross_right n.eq (by omega) hD
    show Q (.bl (decide (t * v < u * b))) _
    by_cases d : t * D < C * b
    · rw [decide_eq_true (e.mpr d)]
      exact q1 ⟨c', d⟩ _ s1
    · rw [decide_eq_false fun z => d (e.mp z)]
      exact q0 (fun z => d z.2) _ s1
  · exact q0 (fun z => c (decide_eq_true z.1)) _ (Same.refl H)
def spSimplest : Sp := fun vs H Q _ => ∃ (a : Addr) (ns : List Int), vs = [.ref a] ∧ Ticks H a ns ∧ (¬ Fits ns → ∀ H', Same H H' → Q .non H') ∧
  (Fits ns → ∃ P : Int, IsFirst (lowN ns).1 (lowN ns).2 (highN ns).1 (highN ns).2 P ∧ ∀ H' p, Same H H' → H' p = some (.tup [.int (topOf (lowN ns).1 (lowN ns).2 P), .int P]) → Q (.ref p) H')
/-- all the defs that simplest leans on -/
structure Deps (K : PySem.W.Frag) (mg : Str → Option Value) (g1 g2 g3 g4 g5 g6 g7 g8 g9 : Addr) (d1 d2 d3 d4 d5 d6 d7 d8 d9 : FuncData) : Prop where
  bounds : At K mg "bounds" ["log"] sBounds g1 d1
  check : At K mg "check_log" ["log"] sCheck g2 d2
  between : At K mg "is_between" ["value", "low", "high"] sBetween g3 d3
  isInt : At K mg "is_integer" ["value"] sIsInt g4 d4
  lowest : At K mg "lowest" ["top", "bottom"] sLowest g5 d5
  divisor : At K mg "divisor" ["one", "other"] sDivisor g6 d6
  less : At K mg "is_less" ["one", "other"] sLess g7 d7
  leastTop : At K mg "least_top" ["low", "bottom"] sLeastTop g8 d8
  leastIn : At K mg "is_least_in" ["ends", "top", "bottom"] sLeastIn g9 d9
theorem ok_simplest {g1 : Addr} {d1 : FuncData} (F : Fun K "simplest" "simplest" sSimplest f fd) (D : Deps K mg g1 g2 g3 g4 g5 g6 g7 g8 g9 d1 gd2 gd3 gd4 gd5 gd6 gd7 gd8 gd9) (T : Top mg) : FnOk P w K mg base CX0 5 f fd ["log"] spSimplest := by
  have GB : FnOk P w K mg base CX0 4 g1 d1 ["log"] spBounds := ok_bounds D.bounds.F D.check D.between D.isInt D.lowest D.divisor D.less T
  have GI : FnOk P w K mg base CX0 2 g9 gd9 ["ends", "top", "bottom"] (spLeastIn K) := ok_leastIn D.leastIn.F D.less
  have GT : FnOk P w K mg base CX0 1 g8 gd8 ["low", "bottom"] (spLeastTop K) := ok_leastTop D.leastTop.F
  refine F.ok scSimplest (fun vs H Q E h => ?_) (fun cdv A outer s H vs Q E hr h => ?_)
  · obtain ⟨_, _, rfl, _⟩ := h
    rfl
  obtain ⟨a, ns, rfl, t, qN, qS⟩ := h
  have hr2 : Room 2 _ := hr.mono (by decide)
  have hr1 : Room 1 _ := hr.mono (by decide)
  refine ⟨_, pss_cons (ps_set (i := 1) scSimplest.nd rfl (.inl rfl) (pe_call GB hr (by rfl) D.bounds.g D.bounds.F.kp D.bounds.b .nil pass0 (pa_cons (pv 0) pa_nil)))
    (pss_cons (ps_if (pt_cmpR op_isN (pv 1) pe_non (nomark _)) (pss_one (ps_ret pe_non)) pss_nil)
    (pss_cons (ps_set (i := 2) scSimplest.nd rfl (.inl rfl) pe_int)
    (pss_cons (ps_while PassesOwn.never (pt_not (pt_val (pe_call GI hr2 (by rfl) D.leastIn.g D.leastIn.F.kp D.leastIn.b .nil pass0
        (pa_cons (pv 1) (pa_cons (pe_call GT hr1 (by rfl) D.leastTop.g D.leastTop.F.kp D.leastTop.b .nil pass0 (pa_cons (pe_ix ix_tup (pv 1) pe_int (fun _ _ => rfl)) (pa_cons (pv 2) pa_nil))) (pa_cons (pv 2) pa_nil))))))
      (pss_one (ps_set (i := 2) scSimplest.nd rfl (.inl rfl) (pe_op op_add (pv 2) pe_int))))
    (pss_one (ps_ret (pe_tup (pa_cons (pe_call GT hr1 (by rfl) D.leastTop.g D.leastTop.F.kp D.leastTop.b .nil pass0 (pa_cons (pe_ix ix_tup (pv 1) pe_int (fun _ _ => rfl)) (pa_cons (pv 2) pa_nil))) (pa_cons (pv 2) pa_nil)))))))), ?_⟩
  refine ⟨_, rfl, a, ns, rfl, t, fun c H1 s1 => ?_, fun c H1 p l h x y u v s1 ep el eh nl nh => ?_⟩
  · -- None
    refine ⟨_, rfl, rfl, _, rfl, ?_⟩
    rw [decide_eq_true rfl]
    exact iteT (qN c _ s1)
  · obtain ⟨P, FP, q⟩ := qS c
    have LP : 0 < (lowN ns).2 := Int.lt_of_lt_of_le (by decide) (lowOk t.bits ns.length (Nat.le_refl _)).pos
    have RP : 0 < (highN ns).2 := Int.lt_of_lt_of_le (by decide) (highOk t.bits ns.length (Nat.le_refl _)).pos
    refine ⟨_, rfl, rfl, _, rfl, ?_⟩
    rw [decide_eq_false (show ¬ V.ref p = V.non from fun z => nomatch z)]
    refine iteF ?_
    refine ⟨fun m σ H' => ∃ b : Int, m = (P - b).toNat ∧ σ = [some (.ref a), some (.ref p), some (.int b)] ∧ 1 ≤ b ∧ b ≤ P ∧ Same H1 H', ⟨_, 1, rfl, rfl, Int.le_refl _, FP.pos, Same.refl H1⟩, fun m σ H' hw => ?_⟩
    obtain ⟨b, rfl, rfl, b1, b2, sm⟩ := hw
    refine ⟨_, rfl, _, rfl, p, _, 0, .ref l, rfl, rfl, .of (sm _ _ ep), atI_nat (j := 0) rfl, _, rfl, l, x, y, _, _, b, rfl, .of (sm _ _ el), nl, LP, _, rfl, ?_⟩
    refine ⟨p, l, h, u, v, _, _, _, b, rfl, sm _ _ ep, sm _ _ eh, nh, RP, fun k H2 s2 => ?_, fun k H2 s2 => ?_⟩
    · -- found
      obtain rfl : b = P := by
        rcases Int.lt_or_le b P with z | z
        · exact absurd k (FP.none b b1 z)
        · omega
      refine ⟨true, rfl, iteF ?_⟩
      have sm2 := sm.trans s2
      refine ⟨_, rfl, p, _, 0, .ref l, rfl, rfl, .of (sm2 _ _ ep), atI_nat (j := 0) rfl, _, rfl, l, x, y, _, _, b, rfl, .of (sm2 _ _ el), nl, LP, _, rfl, (by show 2 ≤ sizeLine; decide), fun r hr' => ?_⟩
      exact q _ r (s1.trans (sm2.trans (same_new hr'))) upd_same
    · have bP : b < P := by
        rcases Int.lt_or_le b P with z | z
        · exact z
        · obtain rfl : b = P := by omega
          exact absurd FP.here k
      refine ⟨false, rfl, iteT ?_⟩
      refine ⟨fun σ' H3 => H3 = H2 ∧ σ' = [some (.ref a), some (.ref p), some (.int (b + 1))], fun σ' H3 hN => ?_, _, rfl, _, _, rfl, rfl, rfl, rfl⟩
      obtain ⟨rfl, rfl⟩ := hN
      exact ⟨(P - (b + 1)).toNat, by omega, b + 1, rfl, rfl, by omega, by omega, sm.trans s2⟩
end
end Tk
/-! the law's own: _law_basin, _law_ladle, _law_lowest -/
namespace Tk
open PySem L2
section
variable {P : Program} {w : World} {K : PySem.W.Frag} {mg : Str → Option Value} {base : Heap} {f g : Addr} {fd gd : FuncData}

/-! ### _law_basin -/
def spBasin (K : PySem.W.Frag) : Sp := fun vs H Q _ => ∃ (a : Addr) (ns : List Int) (i : Int), vs = [.ref a, .int i] ∧ SqL K H a (ns.map V.int) ∧ 0 ≤ i ∧ i ≤ 100 ∧ ∀ H' b, Same H H' → H b = none → Basin H' b → Q (.ref b) H'
/-- an expression by a stronger reading -/
theorem pe_weak {X : Cx} {e : Expr} {t : TE} (t' : TE) (h : PE X e t) (k : ∀ σ H Q, t' σ H Q → t σ H Q) : PE X e t' := ⟨fun pins s σ H Q I hq => h.run pins s σ H Q I (k σ H Q hq)⟩
/-- all items are ints -/
def Ints (xs : List V) : Prop := ∀ x ∈ xs, ∃ i : Int, x = .int i
theorem ints_map (ns : List Int) : Ints (ns.map V.int) := fun x hx => by
  obtain ⟨i, _, rfl⟩ := List.mem_map.mp hx
  exact ⟨i, rfl⟩
theorem Ints.cut {xs : List V} (h : Ints xs) (lo hi : Option Int) : Ints (cutV xs lo hi) := fun x hx => h x (List.mem_of_mem_drop (List.mem_of_mem_take hx))
theorem cut_le (xs : List V) (k : Nat) : (cutV xs none (some (k : Int))).length ≤ k := by
  unfold cutV
  rw [HT.sIx_nat, HT.sIx_none, List.length_take]
  omega
theorem ok_basin (F : Fun K "_law_basin" "_law_basin" sBasin f fd) (T : Top mg) : FnOk P w K mg base CX0 1 f fd ["_law_script", "_law_at"] (spBasin K) := by
  refine F.ok scBasin (fun vs H Q E h => ?_) (fun cdv A outer s H vs Q E hr h => ?_)
  · obtain ⟨_, _, _, rfl, _⟩ := h
    rfl
  obtain ⟨a, ns, i, rfl, hS, i0, i1, q⟩ := h
  refine ⟨_, pss_cons (ps_set (i := 2) scBasin.nd rfl (.inl rfl) (pe_weak (fun σ H' Q' => σ = [some (.ref a), some (.int i), none, none, none] ∧ SqL K H' a (ns.map V.int) ∧ ∀ own : Int, Q' (.int own) H') (pe_ifExp (pt_cmpR op_lt (pv 1) (pe_callB call_len_seq (by rfl) T.len PySem.boot_len (pa_cons (pv 0) pa_nil)) (nomark _)) (pe_ix ix_list (pv 0) (pv 1) (fun _ _ => rfl)) (pe_op op_add (pe_op op_mul pe_int (pv 1)) pe_int)) ?own))
    (pss_cons (ps_set (i := 3) scBasin.nd rfl (.inl rfl) (pe_op op_mul pe_int (pe_op op_add (pv 1) pe_int)))
    (pss_cons (ps_for PassesOwn.never rfl (pi_list (pe_op op_cat (pe_slice sl_list (pv 0) po_none (po_some pe_int)) (pe_lst (pa_cons (pv 2) pa_nil)))) (pg_name (i := 4) scBasin.nd rfl (.inl rfl))
      (pss_one (ps_set (i := 3) scBasin.nd rfl (.inl rfl) (pe_op op_mod (pe_callTy call_int1 (by rfl) T.int PyProof.Rows.boot_int (pa_cons (pe_op op_add (pe_op op_mul (pv 3) pe_int) (pv 4)) pa_nil)) pe_int))))
    (pss_one (ps_ret (pe_lst (pa_cons (pe_ifExp (pt_cmpR op_ge (pe_callB call_abs (by rfl) T.abs (by decide +kernel) (pa_cons (pv 2) pa_nil)) (pe_op op_pow pe_int pe_int) (nomark _)) (pe_callB call_abs (by rfl) T.abs (by decide +kernel) (pa_cons (pv 2) pa_nil)) pe_int)
      (pa_cons (pv 3) (pa_cons pe_int pa_nil)))))))), ?_⟩
  case own =>
    rintro σ H' Q' ⟨rfl, hS', q'⟩
    refine ⟨_, rfl, _, rfl, a, _, rfl, .inl hS', _, _, rfl, rfl, _, rfl, ite2 (fun c => ?_) (fun c => ?_)⟩
    · have c' : i < (((ns.map V.int).length : Nat) : Int) := of_decide_eq_true c
      rw [List.length_map] at c'
      have gi : (ns.map V.int)[i.toNat]? = some (.int ns[i.toNat]) := by
        rw [List.getElem?_map, List.getElem?_eq_getElem (by omega)]
        rfl
      exact ⟨_, rfl, _, rfl, a, _, _, .int ns[i.toNat], rfl, rfl, hS', at_of (j := i.toNat) (by omega) gi, q' _⟩
    · exact ⟨_, rfl, _, _, rfl, rfl, cmul_right (by omega) (by omega), _, _, rfl, rfl, q' _⟩
  refine ⟨rfl, hS, fun own => ?_⟩
  refine ⟨_, rfl, _, _, rfl, rfl, _, _, rfl, rfl, cmul_right (by omega) (by omega), ?_⟩
  -- the loop over script[:5] + [own]
  refine ⟨_, rfl, 5, rfl, a, _, rfl, hS, fun c1 n1 => ?_⟩
  refine ⟨_, rfl, (by show 1 ≤ sizeLine; decide), fun c2 n2 => ?_⟩
  have s1 := same_new (o := .lst (cutV (ns.map V.int) none (some 5))) n1
  refine ⟨c1, c2, _, _, rfl, rfl, same_new n2 _ _ upd_same, upd_same, ?_, fun c3 n3 => ?_⟩
  · have : (cutV (ns.map V.int) none (some 5)).length ≤ 5 := cut_le (ns.map V.int) 5
    exact Nat.le_of_lt (small1000 (by show (cutV (ns.map V.int) none (some 5)).length + 1 ≤ 1000; omega))
  have s3 := fun o : HO => s1.trans ((same_new n2).trans (same_new (o := o) n3))
  refine ⟨c3, rfl, ⟨_, .of upd_same⟩, for_list (K := K) (a := c3) (xs := cutV (ns.map V.int) none (some 5) ++ [.int own]) (fun j σ H' => ∃ z y4, σ = [some (.ref a), some (.int i), some (.int own), some (.int z), y4] ∧ H' c3 = some (.lst (cutV (ns.map V.int) none (some 5) ++ [.int own])) ∧ Same H H') ⟨_, none, rfl, upd_same, s3 _⟩ (fun j σ H' _ hP => ?_) (fun j x σ H' hx hP => ?_) (fun σ H' hP => ?_)⟩
  · obtain ⟨_, _, _, e, _⟩ := hP
    exact .of e
  · obtain ⟨z, y4, rfl, e, sm⟩ := hP
    obtain ⟨v, rfl⟩ : ∃ v : Int, x = .int v := by
      rcases List.mem_append.mp (List.mem_of_getElem? hx) with m | m
      · exact (ints_map ns).cut _ _ x m
      · exact ⟨_, List.mem_singleton.mp m⟩
    exact ⟨_, rfl, z, _, rfl, rfl, .inr ⟨by decide, by decide⟩, _, rfl, _, v, rfl, rfl, .inl ⟨_, rfl, _, _, rfl, rfl, (by show (0 : Int) < 18446744073709551253; decide), _, _, rfl, e, sm⟩⟩
  · obtain ⟨z, y4, rfl, e, sm⟩ := hP
    refine ⟨_, rfl, _, rfl, 10, 18, rfl, rfl, ⟨by decide, by decide, by decide⟩, _, _, rfl, rfl, _, rfl, ite2 (fun d => ?_) (fun d => ?_)⟩
    · exact ⟨_, rfl, _, rfl, _, rfl, (by show 3 ≤ sizeLine; decide), fun b nb => q _ b (sm.trans (same_new nb)) (sm.free nb) ⟨_, _, _, upd_same⟩⟩
    · exact ⟨_, rfl, (by show 3 ≤ sizeLine; decide), fun b nb => q _ b (sm.trans (same_new nb)) (sm.free nb) ⟨_, _, _, upd_same⟩⟩

/-! ### _law_ladle -/
def spLadle : Sp := fun vs H Q _ => ∃ (b : Addr) (m : Int), vs = [.ref b, .int m] ∧ Basin H b ∧ 1 ≤ m ∧ m ≤ 1000 ∧ ∀ H' r, SameX b H H' → Basin H' b → 0 ≤ r → r < m → Q (.int r) H'
theorem ok_ladle (F : Fun K "_law_ladle" "_law_ladle" sLadle f fd) (T : Top mg) : FnOk P w K mg base CX0 1 f fd ["_law_basin_here", "_law_many"] spLadle := by
  refine F.ok scLadle (fun vs H Q E h => ?_) (fun cdv A outer s H vs Q E hr h => ?_)
  · obtain ⟨_, _, rfl, _⟩ := h
    rfl
  obtain ⟨b, m, rfl, ⟨x, y, z, hb⟩, m1, m2, q⟩ := h
  refine ⟨_, pss_cons (ps_if (pt_cmpR op_gt (pe_ix ix_list (pv 0) pe_int (fun _ _ => rfl)) pe_int (nomark _))
      (pss_cons (ps_asg (pe_callB call_divmod (by rfl) T.divmod (by decide +kernel) (pa_cons (pe_ix ix_list (pv 0) pe_int (fun _ _ => rfl)) (pa_cons (pv 1) pa_nil)))
        (pg_tup rfl (pgs_cons (pg_sub (pv 0) pe_int set_list) (pgs_cons (pg_name (i := 2) scLadle.nd rfl (.inl rfl)) pgs_nil))))
      (pss_one (ps_ret (pv 2)))) pss_nil)
    (pss_cons (ps_asg (pe_op op_add (pe_ix ix_list (pv 0) pe_int (fun _ _ => rfl)) pe_int) (pg_sub (pv 0) pe_int set_list))
    (pss_cons (ps_set (i := 3) scLadle.nd rfl (.inl rfl) (pe_op op_add (pe_op op_mul (pe_ix ix_list (pv 0) pe_int (fun _ _ => rfl)) pe_int) (pe_op op_mul pe_int (pe_ix ix_list (pv 0) pe_int (fun _ _ => rfl)))))
    (pss_cons (ps_asg (pe_op op_mod (pe_callTy call_int1 (by rfl) T.int PyProof.Rows.boot_int (pa_cons (pv 3) pa_nil)) pe_int) (pg_sub (pv 0) pe_int set_list))
    (pss_one (ps_ret (pe_op op_mod (pe_callTy call_int1 (by rfl) T.int PyProof.Rows.boot_int (pa_cons (pe_op op_fdiv (pe_ix ix_list (pv 0) pe_int (fun _ _ => rfl)) pe_int) pa_nil)) (pv 1))))))), ?_⟩
  refine ⟨_, rfl, b, _, 0, .int x, rfl, rfl, .of hb, atI_nat (j := 0) rfl, _, _, rfl, rfl, _, rfl, ite2 (fun c => ?_) (fun c => ?_)⟩
  · -- a digit of the great cell
    refine ⟨_, rfl, b, _, 0, .int x, rfl, rfl, .of hb, atI_nat (j := 0) rfl, _, rfl, x, m, rfl, ⟨by omega, by omega⟩, fun p hp => ?_⟩
    have nb : b ≠ p := ne_of_none hb hp
    refine ⟨p, _, rfl, .of upd_same, rfl, _, _, rfl, ?_⟩
    refine ⟨_, rfl, b, _, 0, 0, rfl, rfl, (upd_ne nb).trans hb, rfl, ?_⟩
    refine ⟨_, _, rfl, ?_⟩
    refine ⟨rfl, _, rfl, ?_⟩
    refine q _ _ (fun d o n e => ?_) ⟨_, _, _, upd_same⟩ (Int.emod_nonneg _ (by omega)) (Int.emod_lt_of_pos _ (by omega))
    rw [upd_ne n, upd_ne (ne_of_none e hp)]
    exact e
  · -- a swirled number
    refine ⟨_, rfl, b, _, 2, .int z, rfl, rfl, .of hb, atI_nat (j := 2) rfl, _, _, rfl, rfl, ?_⟩
    refine ⟨_, rfl, b, _, 2, 2, rfl, rfl, hb, rfl, ?_⟩
    have x1 : SameX b H (upd H b (.lst (([.int x, .int y, .int z] : List V).set 2 (.int (z + 1))))) := sameX_upd
    refine ⟨_, rfl, b, _, 1, .int y, rfl, rfl, .of upd_same, atI_nat (j := 1) rfl, _, _, rfl, rfl, .inr ⟨by decide, by decide⟩, ?_⟩
    refine ⟨_, rfl, b, _, 2, .int (z + 1), rfl, rfl, .of upd_same, atI_nat (j := 2) rfl, _, _, rfl, rfl, .inl ⟨by decide, by decide⟩, _, _, rfl, rfl, ?_⟩
    refine ⟨_, rfl, .inl ⟨_, rfl, _, _, rfl, rfl, (by show (0 : Int) < 18446744073709551253; decide), ?_⟩⟩
    refine ⟨_, rfl, b, _, 1, 1, rfl, rfl, upd_same, rfl, ?_⟩
    refine ⟨_, rfl, b, _, 1, _, rfl, rfl, .of upd_same, atI_nat (j := 1) rfl, _, _, rfl, rfl, ⟨by decide, by decide⟩, .inl ⟨_, rfl, _, rfl, _, _, rfl, rfl, (by omega), ?_⟩⟩
    exact q _ _ (x1.trans sameX_upd) ⟨_, _, _, upd_same⟩ (Int.emod_nonneg _ (by omega)) (Int.emod_lt_of_pos _ (by omega))

/-! ### _law_lowest -/
def spLLow : Sp := fun vs H Q _ => ∃ a b : Int, vs = [.int a, .int b] ∧ 1 ≤ a ∧ a ≤ 1000 ∧ 1 ≤ b ∧ b ≤ 1000 ∧ Int.gcd a b = 1 ∧ ∀ H' p, Same H H' → H' p = some (.tup [.int a, .int b]) → Q (.ref p) H'
theorem ok_llow (F : Fun K "_law_lowest" "_law_lowest" sLLow f fd) (T : Top mg) : FnOk P w K mg base CX0 1 f fd ["_law_top", "_law_bottom"] spLLow := by
  refine F.ok scLLow (fun vs H Q E h => ?_) (fun cdv A outer s H vs Q E hr h => ?_)
  · obtain ⟨_, _, rfl, _⟩ := h
    rfl
  obtain ⟨a, b, rfl, a1, a2, b1, b2, hg, q⟩ := h
  refine ⟨_, pss_cons (ps_par (i := 2) (j := 3) rfl scLLow.nd rfl rfl (by decide) rfl rfl (pa_cons (pv 0) (pa_cons (pv 1) pa_nil)) (by rfl))
    (pss_cons (ps_while PassesOwn.never (pt_cmpR op_gt (pv 3) pe_int (nomark _))
      (pss_one (ps_par (i := 2) (j := 3) rfl scLLow.nd rfl rfl (by decide) rfl rfl (pa_cons (pv 3) (pa_cons (pe_op op_mod (pe_callTy call_int1 (by rfl) T.int PyProof.Rows.boot_int (pa_cons (pv 2) pa_nil)) (pv 3)) pa_nil)) (by rfl))))
    (pss_one (ps_ret (pe_tup (pa_cons (pe_op op_fdiv (pv 0) (pv 2)) (pa_cons (pe_op op_fdiv (pv 1) (pv 2)) pa_nil)))))), ?_⟩
  refine ⟨_, rfl, _, rfl, _, _, rfl, ?_⟩
  refine ⟨fun m σ H' => H' = H ∧ ∃ x y : Int, σ = [some (.int a), some (.int b), some (.int x), some (.int y)] ∧ m = y.toNat ∧ 0 ≤ x ∧ 0 ≤ y ∧ Int.gcd x y = 1, ⟨_, rfl, a, b, rfl, rfl, by omega, by omega, hg⟩, fun m σ H' hw => ?_⟩
  obtain ⟨rfl, x, y, rfl, rfl, hx, hy, e⟩ := hw
  refine ⟨_, rfl, _, _, rfl, rfl, _, rfl, ite2 (fun c => ?_) (fun c => ?_)⟩
  · have c' : 0 < y := of_decide_eq_true c
    refine ⟨fun σ' H2 => H2 = H' ∧ σ' = [some (.int a), some (.int b), some (.int y), some (.int (x % y))], fun σ' H2 hN => ?_, ?_⟩
    · obtain ⟨rfl, rfl⟩ := hN
      have l1 := Int.emod_lt_of_pos x c'
      have l0 := Int.emod_nonneg x (show y ≠ 0 by omega)
      exact ⟨(x % y).toNat, by omega, rfl, y, x % y, rfl, rfl, hy, l0, (gcd_turn hx hy).trans e⟩
    · exact ⟨_, rfl, _, rfl, .inl ⟨_, rfl, _, rfl, _, _, rfl, rfl, c', _, _, rfl, rfl, rfl⟩⟩
  · have c' : ¬ 0 < y := of_decide_eq_false (Bool.eq_false_iff.mpr c)
    obtain rfl : y = 0 := by omega
    obtain rfl : x = 1 := by
      rw [Int.gcd_zero_right] at e
      omega
    refine ⟨_, rfl, _, rfl, _, _, rfl, rfl, ⟨by decide, by decide⟩, _, rfl, _, rfl, _, _, rfl, rfl, ⟨by decide, by decide⟩, (by show 2 ≤ sizeLine; decide), fun p hp => ?_⟩
    refine q _ p (same_new hp) ?_
    rw [upd_same]
    show some (HO.tup [.int (a / 1), .int (b / 1)]) = _
    rw [Int.ediv_one, Int.ediv_one]
end
end Tk
/-! _law_edges, _law_suits, _law_first_share -/
namespace Tk
open PySem L2
section
variable {P : Program} {w : World} {K : PySem.W.Frag} {mg : Str → Option Value} {base : Heap} {f g : Addr} {fd gd : FuncData}
def spEdges : Sp := fun vs H Q _ => ∃ (a : Addr) (ns : List Int), vs = [.ref a] ∧ Ticks H a ns ∧
  ∀ H' p l h, Same H H' → H' p = some (.lst [.ref l, .ref h]) → H' l = some (.tup [.int (lowN ns).1, .int (lowN ns).2]) → H' h = some (.tup [.int (highN ns).1, .int (highN ns).2]) → Q (.ref p) H'
theorem ok_edges (F : Fun K "_law_edges" "_law_edges" sEdges f fd) (T : Top mg) : FnOk P w K mg base CX0 1 f fd ["_law_told_ticks"] spEdges := by
  refine F.ok scEdges (fun vs H Q E h => ?_) (fun cdv A outer s H vs Q E hr h => ?_)
  · obtain ⟨_, _, rfl, _⟩ := h
    rfl
  obtain ⟨a, ns, rfl, t, q⟩ := h
  refine ⟨_, pss_cons (ps_asg (pe_tup (pa_cons (pe_tup (pa_cons pe_int (pa_cons pe_int pa_nil))) (pa_cons (pe_tup (pa_cons pe_int (pa_cons pe_int pa_nil))) (pa_cons pe_int pa_nil))))
      (pg_tup rfl (pgs_cons (pg_name (i := 1) scEdges.nd rfl (.inl rfl)) (pgs_cons (pg_name (i := 2) scEdges.nd rfl (.inl rfl)) (pgs_cons (pg_name (i := 3) scEdges.nd rfl (.inl rfl)) pgs_nil)))))
    (pss_cons (ps_for PassesOwn.never rfl (pi_range2 (by rfl) T.range (pa_cons pe_int (pa_cons (pe_op op_add (pe_callB call_len_seq (by rfl) T.len PySem.boot_len (pa_cons (pv 0) pa_nil)) pe_int) pa_nil))) (pg_name (i := 4) scEdges.nd rfl (.inl rfl))
      (pss_cons (ps_set (i := 3) scEdges.nd rfl (.inl rfl) (pe_op op_add (pv 3) (pe_ix ix_tup (pv 0) (pe_op op_sub (pv 4) pe_int) (fun _ _ => rfl))))
      (pss_cons (ps_if (pt_cmpR op_gt (pe_op op_mul (pe_op op_sub (pv 3) pe_int) (pe_ix ix_tup (pv 1) pe_int (fun _ _ => rfl))) (pe_op op_mul (pe_ix ix_tup (pv 1) pe_int (fun _ _ => rfl)) (pv 4)) (nomark _))
        (pss_one (ps_set (i := 1) scEdges.nd rfl (.inl rfl) (pe_tup (pa_cons (pe_op op_sub (pv 3) pe_int) (pa_cons (pv 4) pa_nil))))) pss_nil)
      (pss_one (ps_if (pt_cmpR op_lt (pe_op op_mul (pe_op op_add (pv 3) pe_int) (pe_ix ix_tup (pv 2) pe_int (fun _ _ => rfl))) (pe_op op_mul (pe_ix ix_tup (pv 2) pe_int (fun _ _ => rfl)) (pv 4)) (nomark _))
        (pss_one (ps_set (i := 2) scEdges.nd rfl (.inl rfl) (pe_tup (pa_cons (pe_op op_add (pv 3) pe_int) (pa_cons (pv 4) pa_nil))))) pss_nil)))))
    (pss_one (ps_ret (pe_lst (pa_cons (pv 1) (pa_cons (pv 2) pa_nil)))))), ?_⟩
  refine ⟨(by show 2 ≤ sizeLine; decide), fun l0 n0 => ⟨(by show 2 ≤ sizeLine; decide), fun h0 m0 => ⟨(by show 3 ≤ sizeLine; decide), fun t0 k0 => ?_⟩⟩⟩
  have sT := same_new (o := .tup [.ref l0, .ref h0, .int 0]) k0
  have eH0 := sT h0 (.tup [.int 2, .int 1]) upd_same
  have eL0 := sT _ _ (same_new (o := .tup [.int 2, .int 1]) m0 _ _ (upd_same (H := H) (o := .tup [.int 0, .int 1])))
  have s2 := (same_new (o := .tup [.int 0, .int 1]) n0).trans ((same_new m0).trans sT)
  refine ⟨t0, _, rfl, .of upd_same, rfl, _, _, rfl, _, _, rfl, _, _, rfl, rfl, ?_⟩
  have ln : (((((ns.map V.int).length : Nat) : Int) + 1) - 1).toNat = ns.length := by rw [List.length_map]; omega
  have hh := t.hi
  refine ⟨_, rfl, a, _, rfl, .inr (.of (s2 _ _ t.at_)), _, _, rfl, rfl, 1, _, rfl, ⟨by decide, by decide, by rw [List.length_map]; omega, by rw [List.length_map]; omega⟩, ?_⟩
  refine for_range (lo := 1) (fun i σ H' => ∃ l h y4, σ = [some (.ref a), some (.ref l), some (.ref h), some (.int (had ns i)), y4] ∧ Same H H' ∧ H' l = some (.tup [.int (lowAt ns i).1, .int (lowAt ns i).2]) ∧ H' h = some (.tup [.int (highAt ns i).1, .int (highAt ns i).2]))
    ⟨l0, h0, none, rfl, s2, eL0, eH0⟩ (fun i σ H' hi hP => ?_) (fun σ H' hP => ?_)
  · rw [ln] at hi
    obtain ⟨l, h, y4, rfl, sm, el, eh⟩ := hP
    have hd := had_bound t.bits (i + 1) (by omega)
    have hstep : had ns (i + 1) = had ns i + ns[i] := had_step (List.getElem?_eq_getElem hi)
    have L := lowOk t.bits i (by omega)
    have R := highOk t.bits i (by omega)
    have L1 := L.nn
    have L2' := L.lt
    have L3 := L.le
    have R1 := R.nn
    have R2 := R.top
    have et : (1 : Int) + (i : Int) = (i : Int) + 1 := Int.add_comm _ _
    rw [hstep] at hd
    -- had = had + ticks[t - 1]
    refine ⟨_, rfl, _, rfl, _, rfl, _, _, rfl, rfl, a, _, _, _, rfl, rfl, .of (sm _ _ t.at_), at_of (j := i) (by omega) (t.get hi), _, _, rfl, rfl, ?_⟩
    -- what follows low's choice
    have rest : ∀ (l' : Addr) (H2 : Hp), Same H H2 → H2 l' = some (.tup [.int (lowAt ns (i + 1)).1, .int (lowAt ns (i + 1)).2]) → H2 h = some (.tup [.int (highAt ns i).1, .int (highAt ns i).2]) →
        ∀ D : Ends, (∀ h' H3, Same H H3 → H3 l' = some (.tup [.int (lowAt ns (i + 1)).1, .int (lowAt ns (i + 1)).2]) → H3 h' = some (.tup [.int (highAt ns (i + 1)).1, .int (highAt ns (i + 1)).2]) →
          D.nx [some (.ref a), some (.ref l'), some (.ref h'), some (.int (had ns i + ns[i])), some (.int (1 + (i : Int)))] H3) →
        tIfS (tTest (tOp (rI0 fun i j => .bl (decide (i < j))) (tOp (rI CMul fun i j => .int (i * j)) (tOp (rI0 fun i j => .int (i + j)) (tVar 3) (tC (.int 1))) (tOp (rIxT K) (tVar 2) (tC (.int 1)))) (tOp (rI CMul fun i j => .int (i * j)) (tOp (rIxT K) (tVar 2) (tC (.int 0))) (tVar 4))))
          (tAsg (tTup (tCons (tOp (rI0 fun i j => .int (i + j)) (tVar 3) (tC (.int 1))) (tCons (tVar 4) tNil))) (gName 2)) tNext D
          [some (.ref a), some (.ref l'), some (.ref h), some (.int (had ns i + ns[i])), some (.int (1 + (i : Int)))] H2 := by
      intro l' H2 sm2 el2 eh2 D go
      refine ⟨_, rfl, _, _, rfl, rfl, _, rfl, h, _, 1, _, rfl, rfl, .of eh2, atI_nat (j := 1) rfl, _, _, rfl, rfl, cmul_left (by omega) (by omega), ?_⟩
      refine ⟨_, rfl, h, _, 0, _, rfl, rfl, .of eh2, atI_nat (j := 0) rfl, _, rfl, _, _, rfl, rfl, cmul_left (by omega) (by omega), _, _, rfl, rfl, _, rfl, ite2 (fun c => ?_) (fun c => ?_)⟩
      · have c' : (had ns i + ns[i] + 1) * (highAt ns i).2 < (highAt ns i).1 * (1 + (i : Int)) := of_decide_eq_true c
        refine ⟨_, rfl, _, _, rfl, rfl, _, rfl, (by show 2 ≤ sizeLine; decide), fun p hp => ?_⟩
        have s4 := same_new (o := .tup [.int (had ns i + ns[i] + 1), .int (1 + (i : Int))]) hp
        refine go p _ (sm2.trans s4) (s4 _ _ el2) ?_
        rw [et, ← hstep] at c'
        rw [upd_same]
        unfold highAt
        rw [if_pos c', hstep, et]
      · have c' : ¬ (had ns i + ns[i] + 1) * (highAt ns i).2 < (highAt ns i).1 * (1 + (i : Int)) := fun z => c (decide_eq_true z)
        refine go h _ sm2 el2 ?_
        rw [et, ← hstep] at c'
        unfold highAt
        rw [if_neg c']
        exact eh2
    refine ⟨_, rfl, _, _, rfl, rfl, _, rfl, l, _, 1, _, rfl, rfl, .of el, atI_nat (j := 1) rfl, _, _, rfl, rfl, cmul_left (by omega) (by omega), ?_⟩
    refine ⟨_, rfl, l, _, 0, _, rfl, rfl, .of el, atI_nat (j := 0) rfl, _, rfl, _, _, rfl, rfl, cmul_left (by omega) (by omega), _, _, rfl, rfl, _, rfl, ite2 (fun c => ?_) (fun c => ?_)⟩
    · have c' : (lowAt ns i).1 * (1 + (i : Int)) < (had ns i + ns[i] - 1) * (lowAt ns i).2 := of_decide_eq_true c
      refine ⟨_, rfl, _, _, rfl, rfl, _, rfl, (by show 2 ≤ sizeLine; decide), fun p hp => ?_⟩
      have s4 := same_new (o := .tup [.int (had ns i + ns[i] - 1), .int (1 + (i : Int))]) hp
      refine rest p _ (sm.trans s4) ?_ (s4 _ _ eh) _ fun h' H3 sm3 e1 e2 => ⟨p, h', _, by rw [hstep], sm3, e1, e2⟩
      rw [et, ← hstep] at c'
      rw [upd_same]
      unfold lowAt
      rw [if_pos c', hstep, et]
    · have c' : ¬ (lowAt ns i).1 * (1 + (i : Int)) < (had ns i + ns[i] - 1) * (lowAt ns i).2 := fun z => c (decide_eq_true z)
      refine rest l _ sm ?_ eh _ fun h' H3 sm3 e1 e2 => ⟨l, h', _, by rw [hstep], sm3, e1, e2⟩
      rw [et, ← hstep] at c'
      unfold lowAt
      rw [if_neg c']
      exact el
  · rw [ln] at hP
    obtain ⟨l, h, y4, rfl, sm, el, eh⟩ := hP
    refine ⟨_, rfl, _, rfl, (by show 2 ≤ sizeLine; decide), fun p hp => ?_⟩
    have s4 := same_new (o := .lst [.ref l, .ref h]) hp
    exact q _ p l h (sm.trans s4) upd_same (s4 _ _ el) (s4 _ _ eh)

/-! ### _law_suits -/
def spSuits : Sp := fun vs H Q _ => ∃ (a : Addr) (ns : List Int) (e p : Int), vs = [.ref a, .int e, .int p] ∧ Ticks H a ns ∧ 0 ≤ e ∧ e ≤ 1000 ∧ 1 ≤ p ∧ p ≤ 1000 ∧ (Suits ns e p → Q (.bl true) H) ∧ (¬ Suits ns e p → Q (.bl false) H)
theorem ok_suits (F : Fun K "_law_suits" "_law_suits" sSuits f fd) (T : Top mg) : FnOk P w K mg base CX0 1 f fd ["_law_told_ticks", "_law_e", "_law_p"] spSuits := by
  refine F.ok scSuits (fun vs H Q E h => ?_) (fun cdv A outer s H vs Q E hr h => ?_)
  · obtain ⟨_, _, _, _, rfl, _⟩ := h
    rfl
  obtain ⟨a, ns, e, p, rfl, t, e0, e1, p0, p1, q1, q0⟩ := h
  refine ⟨_, pss_cons (ps_set (i := 3) scSuits.nd rfl (.inl rfl) pe_int)
    (pss_cons (ps_for PassesOwn.never rfl (pi_range2 (by rfl) T.range (pa_cons pe_int (pa_cons (pe_op op_add (pe_callB call_len_seq (by rfl) T.len PySem.boot_len (pa_cons (pv 0) pa_nil)) pe_int) pa_nil))) (pg_name (i := 4) scSuits.nd rfl (.inl rfl))
      (pss_cons (ps_set (i := 3) scSuits.nd rfl (.inl rfl) (pe_op op_add (pv 3) (pe_ix ix_tup (pv 0) (pe_op op_sub (pv 4) pe_int) (fun _ _ => rfl))))
      (pss_one (ps_if (PW.pt (pw_or (pt_cmpR op_ge (pe_op op_sub (pe_op op_mul (pv 4) (pv 1)) (pe_op op_mul (pv 3) (pv 2))) (pv 2) (nomark _)) (pw_or1 (pt_cmpR op_ge (pe_op op_sub (pe_op op_mul (pv 3) (pv 2)) (pe_op op_mul (pv 4) (pv 1))) (pv 2) (nomark _)))))
        (pss_one (ps_ret pe_bl)) pss_nil))))
    (pss_one (ps_ret pe_bl))), ?_⟩
  have ln : (((((ns.map V.int).length : Nat) : Int) + 1) - 1).toNat = ns.length := by rw [List.length_map]; omega
  have hh := t.hi
  refine ⟨_, rfl, a, _, rfl, .inr (.of t.at_), _, _, rfl, rfl, 1, _, rfl, ⟨by decide, by decide, by rw [List.length_map]; omega, by rw [List.length_map]; omega⟩, ?_⟩
  refine for_range (lo := 1) (fun i σ H' => ∃ y4, σ = [some (.ref a), some (.int e), some (.int p), some (.int (had ns i)), y4] ∧ H' = H ∧ ∀ j : Nat, 1 ≤ j → j ≤ i → (j : Int) * e - had ns j * p < p ∧ had ns j * p - (j : Int) * e < p)
    ⟨none, rfl, rfl, fun j j1 j2 => by omega⟩ (fun i σ H' hi hP => ?_) (fun σ H' hP => ?_)
  · rw [ln] at hi
    obtain ⟨y4, rfl, rfl, all⟩ := hP
    have hd := had_bound t.bits (i + 1) (by omega)
    have hstep : had ns (i + 1) = had ns i + ns[i] := had_step (List.getElem?_eq_getElem hi)
    rw [hstep] at hd
    have ec : ((i + 1 : Nat) : Int) = 1 + (i : Int) := by omega
    have m1 : CMul (1 + (i : Int)) e := cmul_left (by omega) (by omega)
    have m2 : CMul (had ns i + ns[i]) p := cmul_left (by omega) (by omega)
    refine ⟨_, rfl, _, rfl, _, rfl, _, _, rfl, rfl, a, _, _, _, rfl, rfl, .of t.at_, at_of (j := i) (by omega) (t.get hi), _, _, rfl, rfl, ?_⟩
    refine ⟨_, rfl, _, rfl, _, _, rfl, rfl, m1, _, rfl, _, rfl, _, _, rfl, rfl, m2, _, _, rfl, rfl, _, rfl, _, _, rfl, rfl, _, rfl, ite2 (fun c => ?_) (fun c => ?_)⟩
    · refine iteT (q0 fun z => ?_)
      have c' : p ≤ (1 + (i : Int)) * e - (had ns i + ns[i]) * p := of_decide_eq_true c
      have := (z (i + 1) (by omega) (by omega)).1
      rw [ec, hstep] at this
      omega
    · have c' : ¬ p ≤ (1 + (i : Int)) * e - (had ns i + ns[i]) * p := fun z => c (decide_eq_true z)
      refine ⟨_, rfl, _, rfl, _, _, rfl, rfl, m2, _, rfl, _, rfl, _, _, rfl, rfl, m1, _, _, rfl, rfl, _, rfl, _, _, rfl, rfl, _, rfl, ite2 (fun d => ?_) (fun d => ?_)⟩
      · have d' : p ≤ (had ns i + ns[i]) * p - (1 + (i : Int)) * e := of_decide_eq_true d
        refine q0 fun z => ?_
        have := (z (i + 1) (by omega) (by omega)).2
        rw [ec, hstep] at this
        omega
      · have d' : ¬ p ≤ (had ns i + ns[i]) * p - (1 + (i : Int)) * e := fun z => d (decide_eq_true z)
        refine ⟨some (.int (1 + (i : Int))), by rw [hstep]; rfl, rfl, fun j j1 j2 => ?_⟩
        by_cases ej : j = i + 1
        · subst ej
          rw [ec, hstep]
          omega
        · exact all j j1 (by omega)
  · rw [ln] at hP
    obtain ⟨y4, rfl, rfl, all⟩ := hP
    exact q1 all

/-! ### _law_first_share -/
def spFirst : Sp := fun vs H Q _ => ∃ (l h : Addr) (la lb ha hb P : Int), vs = [.ref l, .ref h] ∧ H l = some (.tup [.int la, .int lb]) ∧ H h = some (.tup [.int ha, .int hb]) ∧ 0 ≤ la ∧ la ≤ 1000 ∧ 1 ≤ lb ∧ lb ≤ 1000 ∧ 0 ≤ ha ∧ ha ≤ 1000 ∧ 1 ≤ hb ∧ hb ≤ 1000 ∧
  IsFirst la lb ha hb P ∧ P ≤ 400 ∧ ∀ H' p, Same H H' → H' p = some (.tup [.int (topOf la lb P), .int P]) → Q (.ref p) H'
theorem ok_first (F : Fun K "_law_first_share" "_law_first_share" sFirst f fd) (T : Top mg) : FnOk P w K mg base CX0 1 f fd ["_law_low", "_law_high"] spFirst := by
  refine F.ok scFirst (fun vs H Q E h => ?_) (fun cdv A outer s H vs Q E hr h => ?_)
  · obtain ⟨_, _, _, _, _, _, _, rfl, _⟩ := h
    rfl
  obtain ⟨l, h, la, lb, ha, hb, P, rfl, el, eh, a0, a1, b0, b1, c0, c1, d0, d1, FP, hP, q⟩ := h
  refine ⟨_, pss_cons (ps_for PassesOwn.never rfl (pi_range2 (by rfl) T.range (pa_cons pe_int (pa_cons pe_int pa_nil))) (pg_name (i := 2) scFirst.nd rfl (.inl rfl))
      (pss_cons (ps_set (i := 3) scFirst.nd rfl (.inl rfl) (pe_op op_add (pe_op op_fdiv (pe_op op_mul (pe_ix ix_tup (pv 0) pe_int (fun _ _ => rfl)) (pv 2)) (pe_ix ix_tup (pv 0) pe_int (fun _ _ => rfl))) pe_int))
      (pss_one (ps_if (PW.pt (pw_and (pt_cmpR op_le (pv 3) (pv 2) (nomark _)) (pw_and1 (pt_cmpR op_lt (pe_op op_mul (pv 3) (pe_ix ix_tup (pv 1) pe_int (fun _ _ => rfl))) (pe_op op_mul (pe_ix ix_tup (pv 1) pe_int (fun _ _ => rfl)) (pv 2)) (nomark _)))))
        (pss_one (ps_ret (pe_tup (pa_cons (pv 3) (pa_cons (pv 2) pa_nil))))) pss_nil))))
    (pss_one (ps_ret pe_non)), ?_⟩
  refine ⟨1, 402, rfl, ⟨by decide, by decide, by decide, by decide⟩, ?_⟩
  refine for_range (lo := 1) (fun i σ H' => ∃ y2 y3, σ = [some (.ref l), some (.ref h), y2, y3] ∧ H' = H ∧ (i : Int) < P) ⟨none, none, rfl, rfl, by have := FP.pos; omega⟩ (fun i σ H' hi hQ => ?_) (fun σ H' hQ => ?_)
  · obtain ⟨y2, y3, rfl, rfl, iP⟩ := hQ
    refine ⟨_, rfl, l, _, 0, _, rfl, rfl, .of el, atI_nat (j := 0) rfl, _, rfl, _, _, rfl, rfl, cmul_left (by omega) (by omega), _, rfl, l, _, 1, _, rfl, rfl, .of el, atI_nat (j := 1) rfl, _, _, rfl, rfl, ⟨by omega, by omega⟩, _, _, rfl, rfl, ?_⟩
    refine ⟨_, rfl, _, rfl, topOf la lb (1 + (i : Int)), _, rfl, rfl, _, rfl, ite2 (fun c => ?_) (fun c => ?_)⟩
    · have c' : topOf la lb (1 + (i : Int)) ≤ 1 + (i : Int) := of_decide_eq_true c
      refine ⟨_, rfl, _, rfl, h, _, 1, _, rfl, rfl, .of eh, atI_nat (j := 1) rfl, topOf la lb (1 + (i : Int)), _, rfl, rfl, cmul_right (by omega) (by omega), ?_⟩
      refine ⟨_, rfl, h, _, 0, _, rfl, rfl, .of eh, atI_nat (j := 0) rfl, _, rfl, _, _, rfl, rfl, cmul_left (by omega) (by omega), _, _, rfl, rfl, _, rfl, ite2 (fun d => ?_) (fun d => ?_)⟩
      · have d' : topOf la lb (1 + (i : Int)) * hb < ha * (1 + (i : Int)) := of_decide_eq_true d
        obtain rfl : 1 + (i : Int) = P := by
          rcases Int.lt_or_le (1 + (i : Int)) P with z | z
          · exact absurd ⟨c', d'⟩ (FP.none _ (by omega) z)
          · omega
        refine ⟨_, rfl, _, rfl, (by show 2 ≤ sizeLine; decide), fun p hp => ?_⟩
        exact q _ p (same_new hp) upd_same
      · refine ⟨_, _, rfl, rfl, ?_⟩
        have nP : 1 + (i : Int) ≠ P := fun z => d (decide_eq_true (by rw [z]; exact FP.here.2))
        omega
    · refine ⟨_, _, rfl, rfl, ?_⟩
      have nP : 1 + (i : Int) ≠ P := fun z => c (decide_eq_true (by rw [z]; exact FP.here.1))
      omega
  · obtain ⟨_, _, _, _, z⟩ := hQ
    have z' : ((401 : Nat) : Int) < P := z
    omega
end
end Tk
/-! _law_log: a drawn log -/
namespace Tk
open PySem L2
/-- whether a work is kept that has a hand (o = 1) or none (o = 0) in the tick i -/
def okB (i e hd p o : Int) : Bool := decide ((i + 1) * e - (hd + o) * p < p) && decide ((hd + o) * p - (i + 1) * e < p)
theorem ok_some {i e hd p : Int} (h1 : i * e - hd * p < p) (h2 : hd * p - i * e < p) (he : 1 ≤ e) (hep : e ≤ p) : ([0, 1] : List Int).filter (okB i e hd p) ≠ [] := fun z => by
  have none : ∀ o ∈ ([0, 1] : List Int), ¬ okB i e hd p o = true := fun o ho => List.filter_eq_nil_iff.mp z o ho
  have e1 : (i + 1) * e = i * e + e := by rw [Int.add_mul, Int.one_mul]
  have e2 : (hd + 1) * p = hd * p + p := by rw [Int.add_mul, Int.one_mul]
  have e3 : (hd + 0) * p = hd * p := by rw [Int.add_zero]
  by_cases c : i * e + e - hd * p < p
  · refine none 0 (by simp) ?_
    unfold okB
    rw [e1, e3, Bool.and_eq_true]
    exact ⟨decide_eq_true c, decide_eq_true (by omega)⟩
  · refine none 1 (by simp) ?_
    unfold okB
    rw [e1, e2, Bool.and_eq_true]
    exact ⟨decide_eq_true (by omega), decide_eq_true (by omega)⟩
theorem okB_iff {i e hd p o : Int} : okB i e hd p o = true ↔ (i + 1) * e - (hd + o) * p < p ∧ (hd + o) * p - (i + 1) * e < p := by
  unfold okB
  rw [Bool.and_eq_true, decide_eq_true_iff, decide_eq_true_iff]
theorem SameX.free {b c : Addr} {H H' : Hp} (e : SameX b H H') (hb : ∃ o, H' b = some o) (h : H' c = none) : H c = none := by
  cases q : H c with
  | none => rfl
  | some o =>
    by_cases n : c = b
    · subst n
      obtain ⟨o', z⟩ := hb
      rw [z] at h
      exact nomatch h
    · rw [e c o n q] at h
      exact nomatch h
theorem Basin.there {H : Hp} {b : Addr} (h : Basin H b) : ∃ o, H b = some o := let ⟨_, _, _, e⟩ := h; ⟨_, e⟩
theorem Basin.same {H H' : Hp} {b : Addr} (h : Basin H b) (s : Same H H') : Basin H' b := let ⟨x, y, z, e⟩ := h; ⟨x, y, z, s _ _ e⟩
theorem ixN_of {n : Nat} {k : Int} (h0 : 0 ≤ k) (h1 : k < n) : ixN n k = some k.toNat := by
  unfold ixN
  rw [if_pos h0, if_pos h1]
theorem take_filter {q : Int → Bool} {xs : List Int} {j : Nat} {o : Int} (h : xs[j]? = some o) : (xs.take (j + 1)).filter q = (xs.take j).filter q ++ if q o = true then [o] else [] := by
  rw [List.take_add_one, h, List.filter_append]
  by_cases c : q o = true
  · simp [c]
  · simp [c]
/-- the reading of the tick that is drawn -/
def tOne : TE := fun σ H Q => ∃ (b D : Addr) (so : List Int) (r : Int), σ[0]? = some (some (.ref b)) ∧ σ[3]? = some (some (.int r)) ∧ σ[11]? = some (some (.ref D)) ∧ Basin H b ∧ H D = some (.lst (so.map V.int)) ∧ D ≠ b ∧ so.length ≤ 2 ∧ (r ≠ 0 → so ≠ []) ∧
  ∀ o H7, ((r = 0 ∧ (o = 0 ∨ o = 1)) ∨ (r ≠ 0 ∧ o ∈ so)) → SameX b H H7 → Basin H7 b → Q (.int o) H7
section
variable {P : Program} {w : World} {K : PySem.W.Frag} {mg : Str → Option Value} {base : Heap} {f g : Addr} {fd gd : FuncData}
def spLog : Sp := fun vs H Q _ => ∃ (b : Addr) (m : Int), vs = [.ref b, .int m] ∧ Basin H b ∧ 1 ≤ m ∧ m ≤ 60 ∧ ∀ H' a ns, SameX b H H' → Basin H' b → H' a = some (.tup (ns.map V.int)) → Bits ns → 1 ≤ ns.length → (ns.length : Int) ≤ m → Q (.ref a) H'
abbrev namesLog : List Str := ["_law_basin_here", "_law_most", "_law_size", "_law_way_here", "_law_bottom", "_law_e", "_law_p", "_law_had", "_law_found", "_law_t", "_law_one", "_law_some", "_law_at"]
theorem ok_log (F : Fun K "_law_log" "_law_log" sLog f fd) (D : At K mg "_law_ladle" ["_law_basin_here", "_law_many"] sLadle g gd) (T : Top mg) : FnOk P w K mg base CX0 2 f fd ["_law_basin_here", "_law_most"] spLog := by
  have GL : FnOk P w K mg base CX0 1 g gd ["_law_basin_here", "_law_many"] spLadle := ok_ladle D.F T
  refine F.ok scLog (fun vs H Q E h => ?_) (fun cdv A outer s H vs Q E hr h => ?_)
  · obtain ⟨_, _, rfl, _⟩ := h
    rfl
  obtain ⟨b, m, rfl, hB, m1, m2, q⟩ := h
  refine ⟨_, pss_cons (ps_par (i := 2) (j := 3) rfl scLog.nd rfl rfl (by decide) rfl rfl
      (pa_cons (pe_op op_add pe_int (pe_call GL hr (by rfl) D.g D.F.kp D.b .nil pass0 (pa_cons (pv 0) (pa_cons (pv 1) pa_nil)))) (pa_cons (pe_call GL hr (by rfl) D.g D.F.kp D.b .nil pass0 (pa_cons (pv 0) (pa_cons pe_int pa_nil))) pa_nil)) (by rfl))
    (pss_cons (ps_set (i := 4) scLog.nd rfl (.inl rfl) (pe_op op_add pe_int (pe_call GL hr (by rfl) D.g D.F.kp D.b .nil pass0 (pa_cons (pv 0) (pa_cons pe_int pa_nil)))))
    (pss_cons (ps_asg (pe_tup (pa_cons (pe_op op_add pe_int (pe_call GL hr (by rfl) D.g D.F.kp D.b .nil pass0 (pa_cons (pv 0) (pa_cons (pv 4) pa_nil)))) (pa_cons (pv 4) (pa_cons pe_int (pa_cons (pe_lst pa_nil) pa_nil)))))
      (pg_tup rfl (pgs_cons (pg_name (i := 5) scLog.nd rfl (.inr rfl)) (pgs_cons (pg_name (i := 6) scLog.nd rfl (.inr rfl)) (pgs_cons (pg_name (i := 7) scLog.nd rfl (.inr rfl)) (pgs_cons (pg_name (i := 8) scLog.nd rfl (.inl rfl)) pgs_nil))))))
    (pss_cons (ps_for PassesOwn.never rfl (pi_range1 (by rfl) T.range (pa_cons (pv 2) pa_nil)) (pg_name (i := 9) scLog.nd rfl (.inr rfl))
      (pss_cons (ps_setLc (i := 11) (own := [("_law_one", 10)]) (g := gName 10) (by rfl) scLog.nd rfl rfl (sw_true rfl rfl rfl (by decide +kernel)) (pi_list (pe_lst (pa_cons pe_int (pa_cons pe_int pa_nil))))
        (blkOk_by (own := [("_law_one", 10)]) (N := namesLog) (sc := defScope sLog) (by decide +kernel)) (fun _ _ _ _ _ => pg_name (i := 10) scLog.nd rfl (Or.inl rfl))
        (fun _ _ _ _ _ => pts_one (PW.pt (pw_and (pt_cmpR op_lt (pe_op op_sub (pe_op op_mul (pe_op op_add (pv 9) pe_int) (pv 5)) (pe_op op_mul (pe_op op_add (pv 7) (pv 10)) (pv 6))) (pv 6) (nomark _))
          (pw_and1 (pt_cmpR op_lt (pe_op op_sub (pe_op op_mul (pe_op op_add (pv 7) (pv 10)) (pv 6)) (pe_op op_mul (pe_op op_add (pv 9) pe_int) (pv 5))) (pv 6) (nomark _)))))) (fun _ _ _ _ _ => pv 10))
      (pss_cons (ps_set (i := 10) scLog.nd rfl (.inl rfl) (pe_weak tOne (pe_ifExp (pt_cmpR op_eq (pv 3) pe_int (nomark _))
        (pe_ix ix_list (pe_lst (pa_cons pe_int (pa_cons pe_int pa_nil))) (pe_call GL hr (by rfl) D.g D.F.kp D.b .nil pass0 (pa_cons (pv 0) (pa_cons pe_int pa_nil))) (fun _ _ => rfl))
        (pe_ix ix_list (pv 11) (pe_call GL hr (by rfl) D.g D.F.kp D.b .nil pass0 (pa_cons (pv 0) (pa_cons (pe_callB call_len_seq (by rfl) T.len PySem.boot_len (pa_cons (pv 11) pa_nil)) pa_nil))) (fun _ _ => rfl))) ?one))
      (pss_cons (ps_set (i := 7) scLog.nd rfl (.inr rfl) (pe_op op_add (pv 7) (pv 10)))
      (pss_one (ps_expr (pe_bm PySem.F.plainAttrs_list PySem.F.slot_list_append PySem.F.type_list_append mt_append (pv 8) (pa_cons (pv 10) pa_nil))))))))
    (pss_cons (ps_if (pt_cmpR op_eq (pv 3) pe_int (nomark _))
      (pss_cons (ps_set (i := 12) scLog.nd rfl (.inl rfl) (pe_call GL hr (by rfl) D.g D.F.kp D.b .nil pass0 (pa_cons (pv 0) (pa_cons (pv 2) pa_nil))))
      (pss_one (ps_asg (pe_op op_sub pe_int (pe_ix ix_list (pv 8) (pv 12) (fun _ _ => rfl))) (pg_sub (pv 8) (pv 12) set_list)))) pss_nil)
    (pss_one (ps_ret (pe_callTy call_tuple_of (by rfl) T.tup PyProof.Rows.boot_tuple (pa_cons (pv 8) pa_nil)))))))), ?_⟩
  case one =>
    rintro σ H1 Q1 ⟨b1, D1, so, r, e0, e3, e11, B, hD, nD, l2, ne, q1⟩
    refine ⟨_, e3, rfl, _, rfl, ite2 (fun c => ?_) (fun c => ?_)⟩
    · -- [0, 1][ladle]
      obtain rfl : r = 0 := V.int.inj (of_decide_eq_true c)
      refine ⟨(by show 2 ≤ sizeLine; decide), fun L nL => ?_⟩
      have sL := same_new (o := .lst [.int 0, .int 1]) nL
      have nLb : L ≠ b1 := fun z => by
        obtain ⟨o, eo⟩ := B.there
        rw [z, eo] at nL
        exact nomatch nL
      refine ⟨_, e0, b1, 2, rfl, B.same sL, by decide, by decide, fun H7 r' x7 B7 r0 r1 => ?_⟩
      have eL := x7 L _ nLb (upd_same (H := H1) (o := .lst [.int 0, .int 1]))
      have xx : SameX b1 H1 H7 := (toX sL).trans x7
      have rr : r' = 0 ∨ r' = 1 := by omega
      rcases rr with rfl | rfl
      · exact ⟨L, _, 0, .int 0, rfl, rfl, .of eL, atI_nat (j := 0) rfl, q1 0 H7 (.inl ⟨rfl, .inl rfl⟩) xx B7⟩
      · exact ⟨L, _, 1, .int 1, rfl, rfl, .of eL, atI_nat (j := 1) rfl, q1 1 H7 (.inl ⟨rfl, .inr rfl⟩) xx B7⟩
    · -- some[ladle]
      have r0 : r ≠ 0 := fun z => c (decide_eq_true (by rw [z]))
      have nn := ne r0
      have lp : 1 ≤ so.length := by
        cases so with
        | nil => exact absurd rfl nn
        | cons x y => rw [List.length_cons]; omega
      refine ⟨_, e11, _, e0, _, e11, D1, _, rfl, .inl (.of hD), b1, _, rfl, B, by rw [List.length_map]; omega, by rw [List.length_map]; omega, fun H7 r' x7 B7 a0 a1 => ?_⟩
      rw [List.length_map] at a1
      have gi : (so.map V.int)[r'.toNat]? = some (.int so[r'.toNat]) := by
        rw [List.getElem?_map, List.getElem?_eq_getElem (by omega)]
        rfl
      exact ⟨D1, _, r', .int so[r'.toNat], rfl, rfl, .of (x7 _ _ nD hD), at_of (j := r'.toNat) (by omega) gi, q1 _ H7 (.inr ⟨r0, List.getElem_mem _⟩) x7 B7⟩
  -- size, way
  refine ⟨_, rfl, _, rfl, b, m, rfl, hB, m1, by omega, fun H1 r x1 B1 r0 r1 => ⟨_, _, rfl, rfl, ?_⟩⟩
  refine ⟨_, rfl, b, 5, rfl, B1, by decide, by decide, fun H2 r' x2 B2 _ _ => ⟨_, _, rfl, ?_⟩⟩
  -- bottom
  refine ⟨_, rfl, b, 30, rfl, B2, by decide, by decide, fun H3 z x3 B3 z0 z1 => ⟨_, _, rfl, rfl, ?_⟩⟩
  -- e, p, had, found
  refine ⟨_, rfl, _, rfl, b, 1 + z, rfl, B3, by omega, by omega, fun H4 y x4 B4 y0 y1 => ⟨_, _, rfl, rfl, _, rfl, (by show 0 ≤ sizeLine; decide), fun F0 nF => ⟨(by show 4 ≤ sizeLine; decide), fun tp ntp => ?_⟩⟩⟩
  refine ⟨tp, _, rfl, .of upd_same, rfl, _, _, rfl, _, _, rfl, _, _, rfl, _, _, rfl, rfl, ?_⟩
  have sF := same_new (o := .lst []) nF
  have sT := same_new (o := .tup [.int (1 + y), .int (1 + z), .int 0, .ref F0]) ntp
  have eF := sT F0 (.lst []) upd_same
  have x5 : SameX b H _ := (x1.trans (x2.trans (x3.trans x4))).trans (toX (sF.trans sT))
  have B5 := B4.same (sF.trans sT)
  have nFb : F0 ≠ b := fun q0 => by
    obtain ⟨o, eo⟩ := B4.there
    rw [q0, eo] at nF
    exact nomatch nF
  have nF0 : H F0 = none := (x1.trans (x2.trans (x3.trans x4))).free B4.there nF
  -- the loop
  refine ⟨_, rfl, 1 + r, rfl, by omega, by omega, ?_⟩
  refine for_range (lo := 0) (fun i σ H' => ∃ (hd : Int) (fs : List Int) (y9 y10 y11 : Option V), σ = [some (.ref b), some (.int m), some (.int (1 + r)), some (.int r'), some (.int (1 + z)), some (.int (1 + y)), some (.int (1 + z)), some (.int hd), some (.ref F0), y9, y10, y11, none] ∧
      SameX b H H' ∧ Basin H' b ∧ H' F0 = some (.lst (fs.map V.int)) ∧ fs.length = i ∧ Bits fs ∧ 0 ≤ hd ∧ hd ≤ (i : Int) ∧ (r' ≠ 0 → (i : Int) * (1 + y) - hd * (1 + z) < 1 + z ∧ hd * (1 + z) - (i : Int) * (1 + y) < 1 + z))
    ⟨0, [], none, none, none, rfl, x5, B5, eF, rfl, fun x hx => (nomatch hx), Int.le_refl _, Int.le_refl _, fun _ => by omega⟩ (fun i σ H' hi hP => ?_) (fun σ H' hP => ?_)
  · obtain ⟨hd, fs, y9, y10, y11, rfl, x, B, hF, lf, bits, h0, h1, inv⟩ := hP
    have iR : (i : Int) < 1 + r := by omega
    -- [one for one in [0, 1] if ..]
    refine ⟨(by show 2 ≤ sizeLine; decide), fun L nL => ⟨L, rfl, ⟨_, .of upd_same⟩, fun D0 nD => ?_⟩⟩
    have sL := same_new (o := .lst [.int 0, .int 1]) nL
    have sD := same_new (o := .lst []) nD
    have nLD : L ≠ D0 := fun q0 => by
      rw [← q0, upd_same] at nD
      exact nomatch nD
    refine lc_list (K := K) (a := L) (xs := ([0, 1] : List Int).map V.int) (fun j Hx => Hx L = some (.lst [.int 0, .int 1]) ∧ Hx D0 = some (.lst (((([0, 1] : List Int).take j).filter (okB (i : Int) (1 + y) hd (1 + z))).map V.int)) ∧ ∀ c o, c ≠ D0 → H' c = some o → Hx c = some o)
      ⟨sD L _ upd_same, upd_same, fun c o n e => sD _ _ (sL _ _ e)⟩ (fun j Hx _ hP => .of hP.1) (fun j v Hx hv hP => ?_) (fun Hx hP => ?_)
    · obtain ⟨eL, eD, sm⟩ := hP
      obtain ⟨o, ho, rfl⟩ : ∃ o : Int, ([0, 1] : List Int)[j]? = some o ∧ v = .int o := by
        rw [List.getElem?_map] at hv
        cases q0 : ([0, 1] : List Int)[j]? with
        | none => rw [q0] at hv; exact nomatch hv
        | some o => rw [q0] at hv; exact ⟨o, rfl, (Option.some.inj hv).symm⟩
      have ob : o = 0 ∨ o = 1 := by simpa using List.mem_of_getElem? ho
      have tf := take_filter (q := okB (i : Int) (1 + y) hd (1 + z)) ho
      have lt : ((([0, 1] : List Int).take j).filter (okB (i : Int) (1 + y) hd (1 + z))).length ≤ 1000 := by
        have l1 := List.length_filter_le (okB (i : Int) (1 + y) hd (1 + z)) (([0, 1] : List Int).take j)
        have l2 : (([0, 1] : List Int).take j).length ≤ 2 := by
          rw [List.length_take]
          exact Nat.min_le_right _ _
        omega
      have e0i : (0 : Int) + (i : Int) = (i : Int) := Int.zero_add _
      refine ⟨rfl, ?_⟩
      refine ⟨_, rfl, _, _, rfl, rfl, _, rfl, _, _, rfl, rfl, cmul_right (by omega) (by omega), _, rfl, _, rfl, _, _, rfl, rfl, _, rfl, _, _, rfl, rfl, cmul_right (by omega) (by omega), _, _, rfl, rfl, _, rfl, _, _, rfl, rfl, _, rfl, ite2 (fun c => ?_) (fun c => ?_)⟩
      · have c' : (0 + (i : Int) + 1) * (1 + y) - (hd + o) * (1 + z) < 1 + z := of_decide_eq_true c
        refine ⟨_, rfl, _, rfl, _, _, rfl, rfl, _, rfl, _, _, rfl, rfl, cmul_right (by omega) (by omega), _, rfl, _, _, rfl, rfl, _, rfl, _, _, rfl, rfl, cmul_right (by omega) (by omega), _, _, rfl, rfl, _, rfl, _, _, rfl, rfl, _, rfl, ite2 (fun d => ?_) (fun d => ?_)⟩
        · have d' : (hd + o) * (1 + z) - (0 + (i : Int) + 1) * (1 + y) < 1 + z := of_decide_eq_true d
          rw [e0i] at c' d'
          refine ⟨_, rfl, _, eD, by rw [List.length_map]; exact small1000 lt, (upd_ne nLD).trans eL, ?_, fun c o' n e => by rw [upd_ne n]; exact sm c o' n e⟩
          rw [upd_same, tf, if_pos (okB_iff.mpr ⟨c', d'⟩), List.map_append]
          rfl
        · have d' : ¬ (hd + o) * (1 + z) - (0 + (i : Int) + 1) * (1 + y) < 1 + z := fun q0 => d (decide_eq_true q0)
          rw [e0i] at d'
          refine ⟨eL, ?_, sm⟩
          rw [tf, if_neg fun q0 => d' (okB_iff.mp q0).2, List.append_nil]
          exact eD
      · have c' : ¬ (0 + (i : Int) + 1) * (1 + y) - (hd + o) * (1 + z) < 1 + z := fun q0 => c (decide_eq_true q0)
        rw [e0i] at c'
        refine iteF ⟨eL, ?_, sm⟩
        rw [tf, if_neg fun q0 => c' (okB_iff.mp q0).1, List.append_nil]
        exact eD
    · obtain ⟨eL, eD, sm⟩ := hP
      have eD : Hx D0 = some (.lst ((([0, 1] : List Int).filter (okB (i : Int) (1 + y) hd (1 + z))).map V.int)) := eD
      have fresh : ∀ c o, H' c = some o → c ≠ D0 := fun c o e => ne_of_none (sL _ _ e) nD
      have sH : Same H' Hx := fun c o e => sm c o (fresh c o e) e
      have nDb : D0 ≠ b := fun q0 => by
        obtain ⟨o, eo⟩ := B.there
        exact fresh b o eo q0.symm
      have l2 : (([0, 1] : List Int).filter (okB (i : Int) (1 + y) hd (1 + z))).length ≤ 2 := List.length_filter_le _ _
      refine ⟨b, D0, _, r', rfl, rfl, rfl, B.same sH, eD, nDb, l2, fun n0 => ok_some (inv n0).1 (inv n0).2 (by omega) (by omega), fun o H7 ho x7 B7 => ?_⟩
      have hF7 := x7 F0 _ nFb (sH _ _ hF)
      have ob : o = 0 ∨ o = 1 := by
        rcases ho with ⟨_, k⟩ | ⟨_, k⟩
        · exact k
        · simpa using (List.mem_filter.mp k).1
      have hh : fs.length ≤ 100 := by omega
      -- had, append
      refine ⟨_, rfl, _, rfl, _, _, rfl, rfl, ?_⟩
      refine ⟨_, rfl, .inl ⟨rfl, _, .of hF7⟩, _, rfl, F0, _, _, rfl, rfl, hF7, by rw [List.length_map]; exact small1000 (by omega), ?_⟩
      refine ⟨hd + o, fs ++ [o], _, _, _, rfl, fun c o' n e => ?_, ?_, by rw [upd_same, List.map_append]; rfl, by rw [List.length_append, lf]; rfl, fun v hv => ?_, by omega, by omega, fun n0 => ?_⟩
      · rw [upd_ne (ne_of_none e nF0)]
        exact x7 c o' n (sH _ _ (x c o' n e))
      · obtain ⟨u1, u2, u3, e⟩ := B7
        exact ⟨u1, u2, u3, (upd_ne (Ne.symm nFb)).trans e⟩
      · rcases List.mem_append.mp hv with k | k
        · exact bits v k
        · rw [List.mem_singleton.mp k]
          exact ob
      · rcases ho with ⟨k, _⟩ | ⟨_, k⟩
        · exact absurd k n0
        · have k2 := okB_iff.mp (List.mem_filter.mp k).2
          rw [show ((i + 1 : Nat) : Int) = (i : Int) + 1 by omega]
          exact k2
  · obtain ⟨hd, fs, y9, y10, y11, rfl, x, B, hF, lf, bits, h0, h1, _⟩ := hP
    -- return tuple(found)
    have fin : ∀ (σ' : St) (H9 : Hp) (gs : List Int), σ'[8]? = some (some (.ref F0)) → SameX b H H9 → Basin H9 b → H9 F0 = some (.lst (gs.map V.int)) → gs.length = fs.length → Bits gs →
        tRet (tCB (fun xs H Q => ∃ p ys, xs = [.ref p] ∧ ((SqL K H p ys ∧ ∀ l, H l = none → Q (.ref l) (upd H l (.tup ys))) ∨ (SqT K H p ys ∧ Q (.ref p) H))) (tCons (tVar 8) tNil)) { nx := fun _ H' => Q .non H', rt := Q } σ' H9 := by
      intro σ' H9 gs e8 x9 B9 e9 lg bg
      refine ⟨_, e8, F0, _, rfl, .inl ⟨.of e9, fun l nl => ?_⟩⟩
      have sl := same_new (o := .tup (gs.map V.int)) nl
      exact q _ l gs (x9.trans (toX sl)) (B9.same sl) upd_same bg (by omega) (by omega)
    refine ⟨_, rfl, rfl, _, rfl, ite2 (fun c => ?_) (fun c => ?_)⟩
    · refine ⟨_, rfl, _, rfl, b, 1 + r, rfl, B, by omega, by omega, fun H7 k x7 B7 k0 k1 => ?_⟩
      have hF7 := x7 F0 _ nFb hF
      have kl : k.toNat < fs.length := by omega
      have gi : (fs.map V.int)[k.toNat]? = some (.int fs[k.toNat]) := by
        rw [List.getElem?_map, List.getElem?_eq_getElem kl]
        rfl
      have bk := bits _ (List.getElem_mem kl)
      refine ⟨_, rfl, _, rfl, F0, _, k, .int fs[k.toNat], rfl, rfl, .of hF7, at_of (j := k.toNat) (by omega) gi, _, _, rfl, rfl, ?_⟩
      refine ⟨_, rfl, _, rfl, F0, _, k, k.toNat, rfl, rfl, hF7, ixN_of k0 (by rw [List.length_map]; omega), ?_⟩
      refine fin _ _ (fs.set k.toNat (1 - fs[k.toNat])) rfl (fun c o' n e => ?_) ?_ ?_ (List.length_set ..) fun v hv => ?_
      · rw [upd_ne (ne_of_none e nF0)]
        exact x7 c o' n (x c o' n e)
      · obtain ⟨u1, u2, u3, e⟩ := B7
        exact ⟨u1, u2, u3, (upd_ne (Ne.symm nFb)).trans e⟩
      · rw [upd_same, List.map_set]
      · rcases List.mem_or_eq_of_mem_set hv with a | a
        · exact bits v a
        · omega
    · exact fin _ _ fs rfl x B hF rfl bits
end
end Tk
/-! _law_log_right -/
namespace Tk
open PySem L2
/-! ### the data that repr shows -/
abbrev shareD (e p : Int) : PyData := .tuple [.int e, .int p]
theorem small_fits {n : Nat} (h : n ≤ 1000) : n ≤ sizeLine := Nat.le_of_lt (small1000 h)
theorem shown_share {e p : Int} (e0 : 0 ≤ e) (e1 : e ≤ 1000) (p0 : 0 ≤ p) (p1 : p ≤ 1000) : (shareD e p).shown.length ≤ 40 := by
  have h1 : (PyData.shown (.int e)).length ≤ 13 := PyData.shown_int_le (by omega)
  have h2 : (PyData.shown (.int p)).length ≤ 13 := PyData.shown_int_le (by omega)
  have h3 := tupleText_len_le [PyData.shown (.int e), PyData.shown (.int p)]
  have h4 : (shareD e p).shown = tupleText [PyData.shown (.int e), PyData.shown (.int p)] := by simp only [shareD, PyData.shown, PyData.shownAll]
  rw [h4]
  simp only [List.map_cons, List.map_nil, List.sum_cons, List.sum_nil, List.length_cons, List.length_nil] at h3
  omega
theorem shown_shares {e p : Int} (e0 : 0 ≤ e) (e1 : e ≤ 1000) (p0 : 0 ≤ p) (p1 : p ≤ 1000) : (PyData.list [shareD e p, shareD e p]).shown.length ≤ sizeLine := by
  have h1 := shown_share e0 e1 p0 p1
  have h3 := listText_len_le [(shareD e p).shown, (shareD e p).shown]
  have h4 : (PyData.list [shareD e p, shareD e p]).shown = listText [(shareD e p).shown, (shareD e p).shown] := by simp only [PyData.shown, PyData.shownAll]
  rw [h4]
  simp only [List.map_cons, List.map_nil, List.sum_cons, List.sum_nil, List.length_cons, List.length_nil] at h3
  exact small_fits (by omega)
theorem showable_shares {e p : Int} (e0 : 0 ≤ e) (e1 : e ≤ 1000) (p0 : 0 ≤ p) (p1 : p ≤ 1000) : (PyData.list [shareD e p, shareD e p]).showable = true := by
  have sm : ∀ i : Int, 0 ≤ i → i ≤ 1000 → i.natAbs.log2 < 1920 := fun i h0 h1 => by
    have l : i.natAbs < 2 ^ 10 := by omega
    exact Nat.lt_of_lt_of_le (PySem.Flt.log2_lt_of (by decide) l) (by decide)
  simp [shareD, PyData.showable, PyData.showableAll, sm e e0 e1, sm p p0 p1]
theorem depth_shares (e p : Int) : (PyData.list [shareD e p, shareD e p]).depth = 2 := by simp [shareD, PyData.depth, PyData.depthAll]
theorem noDict_shares (e p : Int) : (PyData.list [shareD e p, shareD e p]).hasDict = false := by simp [shareD, PyData.hasDict, PyData.hasDictAll]
theorem shaped_share (e p : Int) : SeqAt.shaped (shareD e p) = true := shaped_ints [e, p]
theorem eqv_share (e p : Int) : PyData.eqv (shareD e p) (shareD e p) = true := by simp [shareD, PyData.eqv, PyData.eqvAll]
section
variable {P : Program} {w : World} {K : PySem.W.Frag} {mg : Str → Option Value} {base : Heap}
theorem dp_share {H : Hp} {a : Addr} {e p : Int} (h : H a = some (.tup [.int e, .int p])) : Dp K H (.ref a) (shareD e p) := .tup (.of h) (.cons (.int e) (.cons (.int p) .nil))
/-- one parameter, by position or by its name -/
theorem kbind_log {x qual : Str} {st : Stmt} {f : Addr} {fd : FuncData} (F : Fun K x qual st f fd)
    (h1 : ∀ (kV doc pm : Value) (an : Option Addr) (cdv ct u : Value), bindArgs (PySem.W.fnOf x qual (defArgs st) (defBody st) (defScope st) .none kV doc pm an cdv ct) ⟨[u], []⟩ = pure [(("log" : Str), u)])
    (h2 : ∀ (kV doc pm : Value) (an : Option Addr) (cdv ct u : Value), bindArgs (PySem.W.fnOf x qual (defArgs st) (defBody st) (defScope st) .none kV doc pm an cdv ct) ⟨[], [(("log" : Str), u)]⟩ = pure [(("log" : Str), u)]) : KBinds K fd ["log"] ["log"] (fun us ws => us ++ ws) (fun vs zs => vs ++ zs) := by
  obtain ⟨oc, od, kV, doc, pm, an, cdv, ct, osl, rfl, lk, hcd⟩ := F.ex
  refine ⟨fun s us ws _ hl => ?_, fun r r' => r.append r'⟩
  match us, ws, hl with
  | [], [u], _ => exact .of_eq (h2 kV doc pm an cdv ct u)
  | [u], [], _ => exact .of_eq (h1 kV doc pm an cdv ct u)
structure LawDeps (K : PySem.W.Frag) (mg : Str → Option Value) (k1 k2 k3 k4 k5 : Addr) (e1 e2 e3 e4 e5 : FuncData) : Prop where
  edges : At K mg "_law_edges" ["_law_told_ticks"] sEdges k1 e1
  first : At K mg "_law_first_share" ["_law_low", "_law_high"] sFirst k2 e2
  suits : At K mg "_law_suits" ["_law_told_ticks", "_law_e", "_law_p"] sSuits k3 e3
  llow : At K mg "_law_lowest" ["_law_top", "_law_bottom"] sLLow k4 e4
  simplest : At K mg "simplest" ["log"] sSimplest k5 e5
def spLogRight : Sp := fun vs H Q _ => ∃ (a : Addr) (ns : List Int), vs = [.ref a] ∧ Ticks H a ns ∧ ∀ H', Same H H' → Q (.bl true) H'
abbrev namesRight : List Str := ["_law_told_ticks", "_law_low", "_law_high", "_law_due", "_law_p", "_law_e"]
variable {f g1 g2 g3 g4 g5 g6 g7 g8 g9 k1 k2 k3 k4 k5 : Addr} {fd d1 d2 d3 d4 d5 d6 d7 d8 d9 e1 e2 e3 e4 e5 : FuncData}
theorem ok_logRight (F : Fun K "_law_log_right" "_law_log_right" sLogRight f fd) (D : Deps K mg g1 g2 g3 g4 g5 g6 g7 g8 g9 d1 d2 d3 d4 d5 d6 d7 d8 d9) (L : LawDeps K mg k1 k2 k3 k4 k5 e1 e2 e3 e4 e5) (T : Top mg) : FnG P w K mg base 6 f fd ["_law_told_ticks"] spLogRight := by
  have GS : FnOk P w K mg base CX0 5 k5 e5 ["log"] spSimplest := ok_simplest L.simplest.F D T
  have GE : FnOk P w K mg base CX0 1 k1 e1 ["_law_told_ticks"] spEdges := ok_edges L.edges.F T
  have GF : FnOk P w K mg base CX0 1 k2 e2 ["_law_low", "_law_high"] spFirst := ok_first L.first.F T
  have GU : FnOk P w K mg base CX0 1 k3 e3 ["_law_told_ticks", "_law_e", "_law_p"] spSuits := ok_suits L.suits.F T
  have GL : FnOk P w K mg base CX0 1 k4 e4 ["_law_top", "_law_bottom"] spLLow := ok_llow L.llow.F T
  have KB : KBinds K e5 ["log"] ["log"] (fun us ws => us ++ ws) (fun vs zs => vs ++ zs) := kbind_log L.simplest.F (fun _ _ _ _ _ _ _ => rfl) (fun _ _ _ _ _ _ _ => rfl)
  refine Tk.Fun.okG F scLogRight (fun vs H Q h => ?_) (fun cdv A outer s H vs Q hgd hr h => ?_)
  · obtain ⟨_, _, rfl, _⟩ := h
    rfl
  obtain ⟨a, ns, rfl, t, q⟩ := h
  have hr1 : Room 1 _ := hr.mono (by decide)
  refine ⟨_, pss_cons (ps_asg (pe_call GE hr1 (by rfl) L.edges.g L.edges.F.kp L.edges.b .nil pass0 (pa_cons (pv 0) pa_nil)) (pg_unl rfl (pgs_cons (pg_name (i := 1) scLogRight.nd rfl (.inl rfl)) (pgs_cons (pg_name (i := 2) scLogRight.nd rfl (.inl rfl)) pgs_nil))))
    (pss_cons (ps_set (i := 3) scLogRight.nd rfl (.inl rfl) (pe_ifExp (pt_cmpR op_lt (pe_op op_mul (pe_ix ix_tup (pv 1) pe_int (fun _ _ => rfl)) (pe_ix ix_tup (pv 2) pe_int (fun _ _ => rfl))) (pe_op op_mul (pe_ix ix_tup (pv 2) pe_int (fun _ _ => rfl)) (pe_ix ix_tup (pv 1) pe_int (fun _ _ => rfl))) (nomark _))
      (pe_call GF hr1 (by rfl) L.first.g L.first.F.kp L.first.b .nil pass0 (pa_cons (pv 1) (pa_cons (pv 2) pa_nil))) pe_non))
    (pss_cons (ps_if (pt_cmpR op_ne (pe_callB call_repr_data (by rfl) T.repr PyProof.Rows.boot_repr (pa_cons (pe_lst (pa_cons (pe_call GS hr (by rfl) L.simplest.g L.simplest.F.kp L.simplest.b .nil pass0 (pa_cons (pv 0) pa_nil))
          (pa_cons (pe_callK0 GS hr (by rfl) L.simplest.g L.simplest.F.kp KB pass0 (pk_cons (pv 0) pk_nil)) pa_nil))) pa_nil))
        (pe_callB call_repr_data (by rfl) T.repr PyProof.Rows.boot_repr (pa_cons (pe_lst (pa_cons (pv 3) (pa_cons (pv 3) pa_nil))) pa_nil)) (nomark _)) (pss_one (ps_ret pe_bl)) pss_nil)
    (pss_cons (ps_if (pt_cmpR op_isN (pv 3) pe_non (nomark _)) (pss_one (ps_ret pe_bl)) pss_nil)
    (pss_cons (ps_for PassesOwn.never rfl (pi_range2 (by rfl) T.range (pa_cons pe_int (pa_cons (pe_callB (call_min2 rfl) (by rfl) T.min PyProof.Rows.boot_min (pa_cons (pe_ix ix_tup (pv 3) pe_int (fun _ _ => rfl)) (pa_cons pe_int pa_nil))) pa_nil))) (pg_name (i := 4) scLogRight.nd rfl (.inr rfl))
      (pss_one (ps_if (pt_cmpR (op_neD hr.units) (pe_lc (own := [("_law_e", 5)]) (g := gName 5) (by rfl) scLogRight.nd (pi_range2 (by rfl) T.range (pa_cons pe_int (pa_cons (pe_op op_add (pv 4) pe_int) pa_nil)))
          (blkOk_by (own := [("_law_e", 5)]) (N := namesRight) (sc := defScope sLogRight) (by decide +kernel)) (fun _ _ _ _ _ => pg_name (i := 5) scLogRight.nd rfl (Or.inl rfl))
          (fun _ _ _ _ _ => pts_one (pt_val (pe_call GU hr1 (by rfl) L.suits.g L.suits.F.kp L.suits.b .nil pass0 (pa_cons (pv 0) (pa_cons (pv 5) (pa_cons (pv 4) pa_nil)))))) (fun _ _ _ _ _ => pv 5)) (pe_lst pa_nil) (nomark _)) (pss_one (ps_ret pe_bl)) pss_nil)))
    (pss_one (ps_ret (pe_and (pe_call GU hr1 (by rfl) L.suits.g L.suits.F.kp L.suits.b .nil pass0 (pa_cons (pv 0) (pa_cons (pe_ix ix_tup (pv 3) pe_int (fun _ _ => rfl)) (pa_cons (pe_ix ix_tup (pv 3) pe_int (fun _ _ => rfl)) pa_nil))))
      (pe_one (pe_cmpR (op_eqD hr.units) (pe_call GL hr1 (by rfl) L.llow.g L.llow.F.kp L.llow.b .nil pass0 (pa_cons (pe_ix ix_tup (pv 3) pe_int (fun _ _ => rfl)) (pa_cons (pe_ix ix_tup (pv 3) pe_int (fun _ _ => rfl)) pa_nil))) (pv 3) (nomark _)))))))))), ?_⟩
  have Lo : LowOk ns ns.length (lowN ns) := lowOk t.bits ns.length (Nat.le_refl _)
  have Hi : HighOk ns ns.length (highN ns) := highOk t.bits ns.length (Nat.le_refl _)
  have hh := t.hi
  have hl := t.lo
  have l1 := Lo.nn
  have l2 := Lo.pos
  have l3 := Lo.lt
  have l4 : (lowN ns).2 ≤ 200 := by
    rcases Lo.from_ with ⟨_, z⟩ | ⟨s, _, z, _, e⟩ <;> omega
  have u1 := Hi.nn
  have u2 := Hi.pos
  have u3 := Hi.top
  have u4 : (highN ns).2 ≤ 200 := by
    rcases Hi.from_ with ⟨_, z⟩ | ⟨s, _, z, _, e⟩ <;> omega
  -- low, high = edges
  refine ⟨_, rfl, a, ns, rfl, t, fun H1 p l h s1 ep el eh => ?_⟩
  refine ⟨p, _, rfl, .of ep, rfl, _, _, rfl, _, _, rfl, rfl, ?_⟩
  -- due
  refine ⟨_, rfl, l, _, 0, _, rfl, rfl, .of el, atI_nat (j := 0) rfl, _, rfl, h, _, 1, _, rfl, rfl, .of eh, atI_nat (j := 1) rfl, _, _, rfl, rfl, cmul_left (by omega) (by omega), ?_⟩
  refine ⟨_, rfl, h, _, 0, _, rfl, rfl, .of eh, atI_nat (j := 0) rfl, _, rfl, l, _, 1, _, rfl, rfl, .of el, atI_nat (j := 1) rfl, _, _, rfl, rfl, cmul_left (by omega) (by omega), _, _, rfl, rfl, _, rfl, ite2 (fun c => ?_) (fun c => ?_)⟩
  · have lt : (lowN ns).1 * (highN ns).2 < (highN ns).1 * (lowN ns).2 := of_decide_eq_true c
    have fits : Fits ns := lt
    obtain ⟨P0, FP, hP⟩ := exists_first l1 l2 l3 l4 u2 u4 lt
    have pp := FP.pos
    have tp := top_pos (p := P0) l1 l2 (by omega)
    have tl := FP.here.1
    have dsuit := due_suits t.bits FP
    have dgcd := first_lowest l2 u2 FP
    refine ⟨_, rfl, _, rfl, l, h, _, _, _, _, P0, rfl, el, eh, l1, by omega, l2, by omega, by omega, by omega, u2, by omega, FP, hP, fun H2 du s2 edu => ?_⟩
    have nb : ∀ e q : Int, 1 ≤ q → q < P0 → 1 ≤ e → e ≤ q → ¬ Suits ns e q := fun e q q1 q2 e1 e2 => none_below t.bits FP q1 q2 e1 e2
    have sA := s1.trans s2
    -- the two texts
    refine ⟨_, rfl, a, ns, rfl, t.same sA, fun z => absurd fits z, fun _ => ⟨P0, FP, fun H3 p1 s3 ep1 => ?_⟩⟩
    refine ⟨_, rfl, a, ns, rfl, t.same (sA.trans s3), fun z => absurd fits z, fun _ => ⟨P0, FP, fun H4 p2 s4 ep2 => ?_⟩⟩
    obtain ⟨E, hE⟩ : ∃ E, topOf (lowN ns).1 (lowN ns).2 P0 = E := ⟨_, rfl⟩
    rw [hE] at edu ep1 ep2 tp tl dsuit dgcd
    have sB := sA.trans (s3.trans s4)
    have ex := showable_shares (e := E) (p := P0) (by omega) (by omega) (by omega) (by omega)
    have ey := shown_shares (e := E) (p := P0) (by omega) (by omega) (by omega) (by omega)
    have du4 := s4 _ _ (s3 _ _ edu)
    refine ⟨(by show 2 ≤ sizeLine; decide), fun L1 n1 => ?_⟩
    have sL1 := same_new (o := .lst [.ref p1, .ref p2]) n1
    refine ⟨L1, .list [shareD E P0, shareD E P0], rfl, .lst (.of upd_same) (.cons (dp_share (sL1 _ _ (s4 _ _ ep1))) (.cons (dp_share (sL1 _ _ ep2)) .nil)), hgd, ?_, ex, noDict_shares _ _, ey, ?_⟩
    · rw [depth_shares]
      exact Nat.lt_of_le_of_lt (Nat.add_le_add_left (by decide) _) hr.units
    refine ⟨_, rfl, _, rfl, (by show 2 ≤ sizeLine; decide), fun L2 n2 => ?_⟩
    have sL2 := same_new (o := .lst [.ref du, .ref du]) n2
    have du5 := sL2 _ _ (sL1 _ _ du4)
    refine ⟨L2, .list [shareD E P0, shareD E P0], rfl, .lst (.of upd_same) (.cons (dp_share du5) (.cons (dp_share du5) .nil)), hgd, ?_, ex, noDict_shares _ _, ey, ?_⟩
    · rw [depth_shares]
      exact Nat.lt_of_le_of_lt (Nat.add_le_add_left (by decide) _) hr.units
    refine ⟨rfl, _, rfl, iteNS rfl ?_⟩
    have sC := sB.trans (sL1.trans sL2)
    -- due is not None
    refine ⟨_, rfl, rfl, _, rfl, ?_⟩
    rw [decide_eq_false (show ¬ V.ref du = V.non from fun z => nomatch z)]
    refine iteF ?_
    -- no share with a lesser bottom
    have hM : (if (12 : Int) < P0 then (12 : Int) else P0) ≤ P0 ∧ 1 ≤ (if (12 : Int) < P0 then (12 : Int) else P0) ∧ (if (12 : Int) < P0 then (12 : Int) else P0) ≤ 12 := by
      split <;> omega
    refine ⟨_, rfl, du, _, 1, .int P0, rfl, rfl, .of du5, atI_nat (j := 1) rfl, P0, 12, rfl, 1, _, rfl, ⟨by decide, by decide, by omega, by omega⟩, ?_⟩
    generalize (if (12 : Int) < P0 then (12 : Int) else P0) = M at *
    refine for_range (lo := 1) (fun i σ H' => ∃ y4, σ = [some (.ref a), some (.ref l), some (.ref h), some (.ref du), y4, none] ∧ Same H H' ∧ H' du = some (.tup [.int E, .int P0])) ⟨none, rfl, sC, du5⟩ (fun i σ H' hi hP => ?_) (fun σ H' hP => ?_)
    · obtain ⟨y4, rfl, sm, edu'⟩ := hP
      have hi' : 1 + (i : Int) < M := by omega
      refine ⟨_, rfl, _, _, rfl, rfl, 1, _, rfl, ⟨by decide, by decide, by omega, by omega⟩, fun D0 nD => ?_⟩
      refine lc_range (lo := 1) (fun j Hx => Hx = upd H' D0 (.lst [])) rfl (fun j Hx hj hx => ?_) (fun Hx hx => ?_)
      · subst hx
        refine ⟨rfl, ?_⟩
        refine ⟨_, rfl, _, rfl, _, rfl, a, ns, 1 + (j : Int), 1 + (i : Int), rfl, t.same (sm.trans (same_new nD)), by omega, by omega, by omega, by omega, fun z => absurd z (nb _ _ (by omega) (by omega) (by omega) (by omega)), fun _ => ⟨false, rfl, iteF rfl⟩⟩
      · subst hx
        refine ⟨(by show 0 ≤ sizeLine; decide), fun E0' nE => ?_⟩
        have sE := same_new (o := .lst []) nE
        refine ⟨.list [], .list [], .lst (.of (sE _ _ upd_same)) .nil, .lst (.of upd_same) .nil, by decide +kernel, by decide +kernel, _, rfl, ?_⟩
        rw [show PyData.eqv (.list []) (.list []) = true by decide +kernel]
        have sF := (same_new (o := .lst []) nD).trans sE
        exact iteF ⟨_, rfl, sm.trans sF, sF _ _ edu'⟩
    · obtain ⟨y4, rfl, sm, edu'⟩ := hP
      refine ⟨_, rfl, _, rfl, du, _, 0, .int E, rfl, rfl, .of edu', atI_nat (j := 0) rfl, _, rfl, du, _, 1, .int P0, rfl, rfl, .of edu', atI_nat (j := 1) rfl, a, ns, E, P0, rfl, t.same sm, by omega, by omega, by omega, by omega, fun _ => ⟨true, rfl, iteT ?_⟩, fun z => absurd dsuit z⟩
      refine ⟨_, rfl, du, _, 0, .int E, rfl, rfl, .of edu', atI_nat (j := 0) rfl, _, rfl, du, _, 1, .int P0, rfl, rfl, .of edu', atI_nat (j := 1) rfl, E, P0, rfl, tp, by omega, by omega, by omega, dgcd, fun H7 p7 s7 ep7 => ?_⟩
      refine ⟨_, rfl, shareD E P0, shareD E P0, dp_share ep7, dp_share (s7 _ _ edu'), shaped_share _ _, shaped_share _ _, ?_⟩
      show Q (.bl (PyData.eqv (shareD E P0) (shareD E P0))) _
      rw [eqv_share]
      exact q _ (sm.trans s7)
  · have fits : ¬ Fits ns := fun z => c (decide_eq_true z)
    refine ⟨_, rfl, a, ns, rfl, t.same s1, fun _ H3 s3 => ?_, fun z => absurd z fits⟩
    refine ⟨_, rfl, a, ns, rfl, t.same (s1.trans s3), fun _ H4 s4 => ?_, fun z => absurd z fits⟩
    refine ⟨(by show 2 ≤ sizeLine; decide), fun L1 n1 => ?_⟩
    refine ⟨L1, .list [.none, .none], rfl, .lst (.of upd_same) (.cons .non (.cons .non .nil)), hgd, Nat.lt_of_le_of_lt (Nat.add_le_add_left (by decide +kernel) _) hr.units, by decide +kernel, by decide +kernel, by decide +kernel, ?_⟩
    refine ⟨_, rfl, _, rfl, (by show 2 ≤ sizeLine; decide), fun L2 n2 => ?_⟩
    refine ⟨L2, .list [.none, .none], rfl, .lst (.of upd_same) (.cons .non (.cons .non .nil)), hgd, Nat.lt_of_le_of_lt (Nat.add_le_add_left (by decide +kernel) _) hr.units, by decide +kernel, by decide +kernel, by decide +kernel, ?_⟩
    refine ⟨rfl, _, rfl, iteNS rfl ?_⟩
    -- due is None
    refine ⟨_, rfl, rfl, _, rfl, ?_⟩
    rw [decide_eq_true rfl]
    refine iteT ?_
    exact q _ (s1.trans (s3.trans (s4.trans ((same_new n1).trans (same_new n2)))))
end
end Tk
/-! _law_right, law -/
namespace Tk
open PySem L2
theorem Ticks.x {b a : Addr} {H H' : Hp} {ns : List Int} (t : Ticks H a ns) (hb : Basin H b) (x : SameX b H H') : Ticks H' a ns := by
  obtain ⟨_, _, _, e⟩ := hb
  exact ⟨x _ _ (ne_of t.at_ e (by intro z; cases z)) t.at_, t.bits, t.lo, t.hi⟩
theorem Ticks.upd {a D : Addr} {H : Hp} {ns : List Int} {xs ys : List V} (t : Ticks H a ns) (hD : H D = some (.lst xs)) : Ticks (upd H D (.lst ys)) a ns :=
  ⟨(upd_ne (ne_of t.at_ hD (by intro z; cases z))).trans t.at_, t.bits, t.lo, t.hi⟩
/-- a list of logs stands at D -/
def Logs (H : Hp) (D : Addr) (n : Nat) : Prop := ∃ acc : List V, H D = some (.lst acc) ∧ acc.length = n ∧ ∀ x ∈ acc, ∃ a ns, x = .ref a ∧ Ticks H a ns
theorem flat_map (ns : List Int) : ∀ k : Nat, (List.replicate k (ns.map V.int)).flatten = ((List.replicate k ns).flatten).map V.int
  | 0 => rfl
  | k + 1 => by
    rw [List.replicate_succ, List.replicate_succ, List.flatten_cons, List.flatten_cons, List.map_append, flat_map ns k]
theorem flat_bits {ns : List Int} (h : Bits ns) (k : Nat) : Bits (List.replicate k ns).flatten := fun x hx => by
  obtain ⟨l, h1, h2⟩ := List.mem_flatten.mp hx
  rw [List.eq_of_mem_replicate h1] at h2
  exact h x h2
theorem flat_len (ns : List Int) : ∀ k : Nat, (List.replicate k ns).flatten.length = k * ns.length
  | 0 => by simp
  | k + 1 => by
    rw [List.replicate_succ, List.flatten_cons, List.length_append, flat_len ns k, Nat.succ_mul, Nat.add_comm]
/-- the reading of the long log -/
def tBig : TE := fun σ H Q => ∃ b, σ[0]? = some (some (.ref b)) ∧ Basin H b ∧ ∀ H' a ns, SameX b H H' → Basin H' b → Ticks H' a ns → Q (.ref a) H'
section
variable {P : Program} {w : World} {K : PySem.W.Frag} {mg : Str → Option Value} {base : Heap}
variable {f f1 f2 f3 f4 f5 : Addr} {fd c1 c2 c3 c4 c5 : FuncData}
abbrev namesAll : List Str := ["_law_basin_here", "_law_logs", "_law_step", "_law_told_ticks"]
def spRight : Sp := fun vs H Q _ => ∃ b : Addr, vs = [.ref b] ∧ Basin H b ∧ ∀ H', SameX b H H' → Q (.bl true) H'
theorem ok_right (F : Fun K "_law_right" "_law_right" sRight f fd) (DG : At K mg "_law_log" ["_law_basin_here", "_law_most"] sLog f1 c1) (DR : At K mg "_law_log_right" ["_law_told_ticks"] sLogRight f2 c2)
    (GG : FnOk P w K mg base CX0 2 f1 c1 ["_law_basin_here", "_law_most"] spLog) (GR : FnG P w K mg base 6 f2 c2 ["_law_told_ticks"] spLogRight) (T : Top mg) : FnG P w K mg base 7 f fd ["_law_basin_here"] spRight := by
  refine Tk.Fun.okG F scRight (fun vs H Q h => ?_) (fun cdv A outer s H vs Q hgd hr h => ?_)
  · obtain ⟨_, rfl, _⟩ := h
    rfl
  obtain ⟨b, rfl, hB, q⟩ := h
  have hr2 : Room 2 _ := hr.mono (by decide)
  refine ⟨_, pss_cons (ps_setLc (i := 1) (own := [("_law_step", 2)]) (g := gName 2) (by rfl) scRight.nd rfl rfl (sw_true rfl rfl rfl (by decide +kernel)) (pi_range1 (by rfl) T.range (pa_cons pe_int pa_nil))
        (blkOk_by (own := [("_law_step", 2)]) (N := namesAll) (sc := defScope sRight) (by decide +kernel)) (fun _ _ _ _ _ => pg_name (i := 2) scRight.nd rfl (Or.inl rfl)) (fun _ _ _ _ _ => pts_nil)
        (fun _ _ _ _ _ => pe_call GG hr2 (by rfl) DG.g DG.F.kp DG.b .nil pass0 (pa_cons (pv 0) (pa_cons pe_int pa_nil))))
    (pss_cons (ps_expr (pe_bm PySem.F.plainAttrs_list PySem.F.slot_list_append PySem.F.type_list_append mt_append (pv 1) (pa_cons (pe_weak tBig (pe_slice sl_tupA (pe_op op_repT (pe_call GG hr2 (by rfl) DG.g DG.F.kp DG.b .nil pass0 (pa_cons (pv 0) (pa_cons pe_int pa_nil))) pe_int) po_none (po_some pe_int)) ?big) pa_nil)))
    (pss_one (ps_ret (pe_cmpR (op_eqD hr.units) (pe_lc (own := [("_law_told_ticks", 3)]) (g := gName 3) (by rfl) scRight.nd (pi_list (pv 1)) (blkOk_by (own := [("_law_told_ticks", 3)]) (N := namesAll) (sc := defScope sRight) (by decide +kernel))
        (fun _ _ _ _ _ => pg_name (i := 3) scRight.nd rfl (Or.inl rfl)) (fun _ _ _ _ _ => pts_one (pt_not (pt_val (pe_callG GR hgd hr (by rfl) DR.g DR.F.kp DR.b (pa_cons (pv 3) pa_nil))))) (fun _ _ _ _ _ => pv 3)) (pe_lst pa_nil) (nomark _))))), ?_⟩
  case big =>
    rintro σ H1 Q1 ⟨b1, e0, B, q1⟩
    refine ⟨_, e0, b1, 30, rfl, B, by decide, by decide, fun H2 a ns x2 B2 ea bits lo hi => ?_⟩
    have hne : ns.map V.int ≠ [] := fun z => by
      have := congrArg List.length z
      rw [List.length_map] at this
      simp at this
      rw [this] at lo
      simp at lo
    refine ⟨a, 200, _, rfl, rfl, .of ea, hne, by decide, by decide, by rw [List.length_map]; omega, fun p np => ?_⟩
    have sp := same_new (o := .tup (List.replicate (200 : Int).toNat (ns.map V.int)).flatten) np
    have big : (upd H2 p (.tup (List.replicate (200 : Int).toNat (ns.map V.int)).flatten)) p = some (.tup (((List.replicate 200 ns).flatten).map V.int)) := by
      rw [upd_same]
      exact congrArg (fun z => some (HO.tup z)) (flat_map ns 200)
    have fb := flat_bits bits 200
    have fl := flat_len ns 200
    generalize (List.replicate 200 ns).flatten = bg at big fb fl
    refine ⟨200, rfl, p, _, rfl, .of big, fun c => ?_, fun c p2 np2 => ?_⟩
    · have hl : bg.length ≤ 200 := by
        have c2 := c.2
        rw [List.length_map] at c2
        have z : HT.sIx bg.length bg.length (some ((200 : Nat) : Int)) = min 200 bg.length := HT.sIx_nat _ _ _
        have c3 : min 200 bg.length = bg.length := z.symm.trans c2
        omega
      exact q1 _ p bg (x2.trans (toX sp)) (B2.same sp) ⟨big, fb, by omega, hl⟩
    · have sp2 := same_new (o := .tup (cutV (bg.map V.int) none (some 200))) np2
      have e2 : cutV (bg.map V.int) none (some 200) = (bg.take 200).map V.int := by
        unfold cutV
        have z : HT.sIx (bg.map V.int).length (bg.map V.int).length (some ((200 : Nat) : Int)) = min 200 (bg.map V.int).length := HT.sIx_nat _ _ _
        have z' : HT.sIx (bg.map V.int).length (bg.map V.int).length (some 200) = min 200 (bg.map V.int).length := z
        rw [z', HT.sIx_none, List.length_map, List.drop_zero, Nat.sub_zero, List.map_take, show min 200 bg.length = 200 by omega]
      refine q1 _ p2 (bg.take 200) (x2.trans (toX (sp.trans sp2))) (B2.same (sp.trans sp2)) ⟨?_, fun v hv => fb v (List.mem_of_mem_take hv), ?_, ?_⟩
      · rw [upd_same, e2]
      · rw [List.length_take]
        omega
      · rw [List.length_take]
        omega
  -- logs = [.. for step in range(4)]
  refine ⟨4, rfl, by decide, by decide, fun D0 nD => ?_⟩
  have nDb : D0 ≠ b := fun z => by
    obtain ⟨o, eo⟩ := hB.there
    rw [z, eo] at nD
    exact nomatch nD
  have sD := same_new (o := .lst []) nD
  refine lc_range (lo := 0) (fun j Hx => Logs Hx D0 j ∧ Basin Hx b ∧ SameX b H Hx) ⟨⟨[], upd_same, rfl, fun x hx => (nomatch hx)⟩, hB.same sD, toX sD⟩ (fun j Hx hj hP => ?_) (fun Hx hP => ?_)
  · obtain ⟨⟨acc, eD, la, all⟩, B, x⟩ := hP
    refine ⟨rfl, ?_⟩
    refine ⟨_, rfl, b, 60, rfl, B, by decide, by decide, fun H2 a ns x2 B2 ea bits lo hi => ?_⟩
    have eD2 := x2 _ _ nDb eD
    have hj4 : j < 4 := hj
    refine ⟨acc, eD2, small1000 (by omega), ⟨acc ++ [.ref a], upd_same, by rw [List.length_append, la]; rfl, fun v hv => ?_⟩, ?_, fun c o n e => ?_⟩
    · rcases List.mem_append.mp hv with k | k
      · obtain ⟨a', ns', e, t⟩ := all v k
        exact ⟨a', ns', e, (t.x B x2).upd eD2⟩
      · have tk : Ticks H2 a ns := ⟨ea, bits, lo, by omega⟩
        exact ⟨a, ns, List.mem_singleton.mp k, tk.upd eD2⟩
    · obtain ⟨u1, u2, u3, e⟩ := B2
      exact ⟨u1, u2, u3, (upd_ne (Ne.symm nDb)).trans e⟩
    · rw [upd_ne (ne_of_none e nD)]
      exact x2 c o n (x c o n e)
  · obtain ⟨⟨acc, eD, la, all⟩, B, x⟩ := hP
    -- the long log
    refine ⟨_, rfl, .inl ⟨rfl, _, .of eD⟩, b, rfl, B, fun H2 a ns x2 B2 tk => ?_⟩
    have eD2 := x2 _ _ nDb eD
    have la4 : acc.length = 4 := la
    refine ⟨D0, _, _, rfl, rfl, eD2, small1000 (by omega), ?_⟩
    have all2 : ∀ v ∈ acc ++ [.ref a], ∃ a' ns', v = V.ref a' ∧ Ticks (upd H2 D0 (.lst (acc ++ [.ref a]))) a' ns' := fun v hv => by
      rcases List.mem_append.mp hv with k | k
      · obtain ⟨a', ns', e, t⟩ := all v k
        exact ⟨a', ns', e, (t.x B x2).upd eD2⟩
      · exact ⟨a, ns, List.mem_singleton.mp k, tk.upd eD2⟩
    have x3 : SameX b H (upd H2 D0 (.lst (acc ++ [.ref a]))) := fun c o n e => by
      rw [upd_ne (ne_of_none e nD)]
      exact x2 c o n (x c o n e)
    have e3 : (upd H2 D0 (.lst (acc ++ [.ref a]))) D0 = some (.lst (acc ++ [.ref a])) := upd_same
    generalize upd H2 D0 (.lst (acc ++ [.ref a])) = H3 at *
    -- none of them is wrong
    refine ⟨_, rfl, D0, rfl, ⟨_, .of e3⟩, fun R nR => ?_⟩
    have sR := same_new (o := .lst []) nR
    refine lc_list (K := K) (a := D0) (xs := acc ++ [.ref a]) (fun j Hx => Same H3 Hx ∧ Hx R = some (.lst [])) ⟨sR, upd_same⟩ (fun j Hx _ hP => .of (hP.1 _ _ e3)) (fun j v Hx hv hP => ?_) (fun Hx hP => ?_)
    · obtain ⟨sm, eR⟩ := hP
      obtain ⟨a', ns', rfl, t⟩ := all2 v (List.mem_of_getElem? hv)
      refine ⟨rfl, ?_⟩
      refine ⟨_, rfl, a', ns', rfl, t.same sm, fun H5 s5 => ⟨true, rfl, iteF ⟨sm.trans s5, s5 _ _ eR⟩⟩⟩
    · obtain ⟨sm, eR⟩ := hP
      refine ⟨(by show 0 ≤ sizeLine; decide), fun W nW => ?_⟩
      have sW := same_new (o := .lst []) nW
      refine ⟨.list [], .list [], .lst (.of (sW _ _ eR)) .nil, .lst (.of upd_same) .nil, by decide +kernel, by decide +kernel, ?_⟩
      rw [show PyData.eqv (.list []) (.list []) = true by decide +kernel]
      exact q _ (x3.trans (toX (sm.trans sW)))

/-! ### law -/
def spLaw (K : PySem.W.Frag) : Sp := fun vs H Q _ => ∃ (a : Addr) (ns : List Int), vs = [.ref a] ∧ SqL K H a (ns.map V.int) ∧ ns.length ≤ 63 ∧ ∀ H', Q (.bl true) H'
theorem ok_law (F : Fun K "law" "law" sLaw f fd) (DB : At K mg "_law_basin" ["_law_script", "_law_at"] sBasin f1 c1) (DR : At K mg "_law_right" ["_law_basin_here"] sRight f2 c2)
    (GB : FnOk P w K mg base CX0 1 f1 c1 ["_law_script", "_law_at"] (spBasin K)) (GR : FnG P w K mg base 7 f2 c2 ["_law_basin_here"] spRight) (T : Top mg) : FnG P w K mg base 8 f fd ["_law_script"] (spLaw K) := by
  refine Tk.Fun.okG F scLaw (fun vs H Q h => ?_) (fun cdv A outer s H vs Q hgd hr h => ?_)
  · obtain ⟨_, _, rfl, _⟩ := h
    rfl
  obtain ⟨a, ns, rfl, hS, h63, q⟩ := h
  have hr1 : Room 1 _ := hr.mono (by decide)
  refine ⟨_, pss_cons (ps_for PassesOwn.never rfl (pi_range1 (by rfl) T.range (pa_cons (pe_callB (call_max2 rfl) (by rfl) T.max PyProof.Rows.boot_max (pa_cons pe_int (pa_cons (pe_callB (call_min2 rfl) (by rfl) T.min PyProof.Rows.boot_min
        (pa_cons (pe_callB call_len_seq (by rfl) T.len PySem.boot_len (pa_cons (pv 0) pa_nil)) (pa_cons pe_int pa_nil))) pa_nil))) pa_nil)) (pg_name (i := 1) scLaw.nd rfl (.inl rfl))
      (pss_one (ps_if (pt_not (pt_val (pe_callG GR hgd hr (by rfl) DR.g DR.F.kp DR.b (pa_cons (pe_call GB hr1 (by rfl) DB.g DB.F.kp DB.b .nil pass0 (pa_cons (pv 0) (pa_cons (pv 1) pa_nil))) pa_nil)))) (pss_one (ps_ret pe_bl)) pss_nil)))
    (pss_one (ps_ret pe_bl)), ?_⟩
  have hM : ∀ n : Int, (if (if (5 : Int) < n then (5 : Int) else n) > 2 then (if (5 : Int) < n then (5 : Int) else n) else 2) ≤ 5 ∧ 2 ≤ (if (if (5 : Int) < n then (5 : Int) else n) > 2 then (if (5 : Int) < n then (5 : Int) else n) else 2) := fun n => by
    split <;> split <;> omega
  refine ⟨_, rfl, a, _, rfl, .inl hS, _, 5, rfl, 2, _, rfl, ?_⟩
  have hm := hM (((ns.map V.int).length : Nat) : Int)
  refine ⟨_, rfl, by omega, by omega, ?_⟩
  generalize (if (if (5 : Int) < (((ns.map V.int).length : Nat) : Int) then (5 : Int) else (((ns.map V.int).length : Nat) : Int)) > 2 then (if (5 : Int) < (((ns.map V.int).length : Nat) : Int) then (5 : Int) else (((ns.map V.int).length : Nat) : Int)) else 2) = M at *
  refine for_range (lo := 0) (fun i σ H' => ∃ y1, σ = [some (.ref a), y1] ∧ Same H H') ⟨none, rfl, Same.refl H⟩ (fun i σ H' hi hP => ?_) (fun σ H' hP => ?_)
  · obtain ⟨y1, rfl, sm⟩ := hP
    refine ⟨_, rfl, _, rfl, a, ns, 0 + (i : Int), rfl, sm.seq hS, by omega, by omega, fun H1 b s1 nb B1 => ?_⟩
    refine ⟨b, rfl, B1, fun H2 x2 => ⟨true, rfl, iteF ⟨_, rfl, fun c o e => ?_⟩⟩⟩
    have e1 := sm _ _ e
    exact x2 c o (ne_of_none e1 nb) (s1 _ _ e1)
  · exact q _
end
end Tk
/-! What the top has left; the law's own head. Printed by gen_end.py. -/
namespace Tk
open PySem L2
/-- a def stands where the top has left it -/
structure Left (K : PySem.W.Frag) (x : Str) (st : Stmt) (f : Addr) (kV dc pm cd ct : Value) (an : Option Addr) : Prop where
  a : PySem.W.nsIn K mainGlobals x = some (some (.ref f))
  l : ∃ (oc : Value) (od : Option Addr) (sl : Array (Option Value)), K.lookup f = some ⟨oc, od, .func (PySem.W.fnOf x x (defArgs st) (defBody st) (defScope st) .none kV dc pm an cd ct), sl⟩
  c : PySem.W.codeIn K cd x = true
  k : PySem.W.keepIn K (.ref f) = true
theorem at_mk {K : PySem.W.Frag} {h : Heap} {mg : Str → Option Value} (X : K.In h) (G : h.Ns mainGlobals mg) {x : Str} {st : Stmt} {f : Addr} {kV dc pm cd ct : Value} {an : Option Addr} {ps : List Str} (L : Left K x st f kV dc pm cd ct an)
    (b : ∀ (kV doc pm : Value) (an : Option Addr) (cdv ct : Value) (us : List Value), us.length = ps.length → bindArgs (PySem.W.fnOf x x (defArgs st) (defBody st) (defScope st) .none kV doc pm an cdv ct) ⟨us, []⟩ = pure (ps.zip us)) :
    At K mg x ps st f (PySem.W.fnOf x x (defArgs st) (defBody st) (defScope st) .none kV dc pm an cd ct) := by
  obtain ⟨oc, od, sl, l⟩ := L.l
  have F := fun_mk (st := st) l L.c L.k
  exact ⟨F, F.binds b, PySem.W.mg_of X G L.a⟩

theorem all_mk {l : PySem.W.OpenLaw} {w : World} {K : PySem.W.Frag} {h : Heap} {mg : Str → Option Value} {fa f1 f2 f3 f4 f5 f6 f7 f8 f9 f10 f11 f12 f13 f14 f15 f16 f17 f18 f19 f20 : Addr} (X : K.In h) (G : h.Ns mainGlobals mg) (hfa : mg "law" = some (.ref fa))
    {kV1 dc1 pm1 cd1 ct1 oc1 : Value} {an1 od1 : Option Addr} {sl1 : Array (Option Value)}
    {kV2 dc2 pm2 cd2 ct2 oc2 : Value} {an2 od2 : Option Addr} {sl2 : Array (Option Value)}
    {kV3 dc3 pm3 cd3 ct3 oc3 : Value} {an3 od3 : Option Addr} {sl3 : Array (Option Value)}
    {kV4 dc4 pm4 cd4 ct4 oc4 : Value} {an4 od4 : Option Addr} {sl4 : Array (Option Value)}
    {kV5 dc5 pm5 cd5 ct5 oc5 : Value} {an5 od5 : Option Addr} {sl5 : Array (Option Value)}
    {kV6 dc6 pm6 cd6 ct6 oc6 : Value} {an6 od6 : Option Addr} {sl6 : Array (Option Value)}
    {kV7 dc7 pm7 cd7 ct7 oc7 : Value} {an7 od7 : Option Addr} {sl7 : Array (Option Value)}
    {kV8 dc8 pm8 cd8 ct8 oc8 : Value} {an8 od8 : Option Addr} {sl8 : Array (Option Value)}
    {kV9 dc9 pm9 cd9 ct9 oc9 : Value} {an9 od9 : Option Addr} {sl9 : Array (Option Value)}
    {kV10 dc10 pm10 cd10 ct10 oc10 : Value} {an10 od10 : Option Addr} {sl10 : Array (Option Value)}
    {kV11 dc11 pm11 cd11 ct11 oc11 : Value} {an11 od11 : Option Addr} {sl11 : Array (Option Value)}
    {kV12 dc12 pm12 cd12 ct12 oc12 : Value} {an12 od12 : Option Addr} {sl12 : Array (Option Value)}
    {kV13 dc13 pm13 cd13 ct13 oc13 : Value} {an13 od13 : Option Addr} {sl13 : Array (Option Value)}
    {kV14 dc14 pm14 cd14 ct14 oc14 : Value} {an14 od14 : Option Addr} {sl14 : Array (Option Value)}
    {kV15 dc15 pm15 cd15 ct15 oc15 : Value} {an15 od15 : Option Addr} {sl15 : Array (Option Value)}
    {kV16 dc16 pm16 cd16 ct16 oc16 : Value} {an16 od16 : Option Addr} {sl16 : Array (Option Value)}
    {kV17 dc17 pm17 cd17 ct17 oc17 : Value} {an17 od17 : Option Addr} {sl17 : Array (Option Value)}
    {kV18 dc18 pm18 cd18 ct18 oc18 : Value} {an18 od18 : Option Addr} {sl18 : Array (Option Value)}
    {kV19 dc19 pm19 cd19 ct19 oc19 : Value} {an19 od19 : Option Addr} {sl19 : Array (Option Value)}
    {kV20 dc20 pm20 cd20 ct20 oc20 : Value} {an20 od20 : Option Addr} {sl20 : Array (Option Value)}
    (a1 : PySem.W.nsIn K mainGlobals "divisor" = some (some (.ref f1))) (l1 : K.lookup f1 = some ⟨oc1, od1, .func (PySem.W.fnOf "divisor" "divisor" (defArgs sDivisor) (defBody sDivisor) (defScope sDivisor) .none kV1 dc1 pm1 an1 cd1 ct1), sl1⟩) (c1 : PySem.W.codeIn K cd1 "divisor" = true) (k1 : PySem.W.keepIn K (.ref f1) = true)
    (a2 : PySem.W.nsIn K mainGlobals "lowest" = some (some (.ref f2))) (l2 : K.lookup f2 = some ⟨oc2, od2, .func (PySem.W.fnOf "lowest" "lowest" (defArgs sLowest) (defBody sLowest) (defScope sLowest) .none kV2 dc2 pm2 an2 cd2 ct2), sl2⟩) (c2 : PySem.W.codeIn K cd2 "lowest" = true) (k2 : PySem.W.keepIn K (.ref f2) = true)
    (a3 : PySem.W.nsIn K mainGlobals "is_less" = some (some (.ref f3))) (l3 : K.lookup f3 = some ⟨oc3, od3, .func (PySem.W.fnOf "is_less" "is_less" (defArgs sLess) (defBody sLess) (defScope sLess) .none kV3 dc3 pm3 an3 cd3 ct3), sl3⟩) (c3 : PySem.W.codeIn K cd3 "is_less" = true) (k3 : PySem.W.keepIn K (.ref f3) = true)
    (a4 : PySem.W.nsIn K mainGlobals "is_integer" = some (some (.ref f4))) (l4 : K.lookup f4 = some ⟨oc4, od4, .func (PySem.W.fnOf "is_integer" "is_integer" (defArgs sIsInt) (defBody sIsInt) (defScope sIsInt) .none kV4 dc4 pm4 an4 cd4 ct4), sl4⟩) (c4 : PySem.W.codeIn K cd4 "is_integer" = true) (k4 : PySem.W.keepIn K (.ref f4) = true)
    (a5 : PySem.W.nsIn K mainGlobals "is_between" = some (some (.ref f5))) (l5 : K.lookup f5 = some ⟨oc5, od5, .func (PySem.W.fnOf "is_between" "is_between" (defArgs sBetween) (defBody sBetween) (defScope sBetween) .none kV5 dc5 pm5 an5 cd5 ct5), sl5⟩) (c5 : PySem.W.codeIn K cd5 "is_between" = true) (k5 : PySem.W.keepIn K (.ref f5) = true)
    (a6 : PySem.W.nsIn K mainGlobals "check_log" = some (some (.ref f6))) (l6 : K.lookup f6 = some ⟨oc6, od6, .func (PySem.W.fnOf "check_log" "check_log" (defArgs sCheck) (defBody sCheck) (defScope sCheck) .none kV6 dc6 pm6 an6 cd6 ct6), sl6⟩) (c6 : PySem.W.codeIn K cd6 "check_log" = true) (k6 : PySem.W.keepIn K (.ref f6) = true)
    (a7 : PySem.W.nsIn K mainGlobals "bounds" = some (some (.ref f7))) (l7 : K.lookup f7 = some ⟨oc7, od7, .func (PySem.W.fnOf "bounds" "bounds" (defArgs sBounds) (defBody sBounds) (defScope sBounds) .none kV7 dc7 pm7 an7 cd7 ct7), sl7⟩) (c7 : PySem.W.codeIn K cd7 "bounds" = true) (k7 : PySem.W.keepIn K (.ref f7) = true)
    (a8 : PySem.W.nsIn K mainGlobals "least_top" = some (some (.ref f8))) (l8 : K.lookup f8 = some ⟨oc8, od8, .func (PySem.W.fnOf "least_top" "least_top" (defArgs sLeastTop) (defBody sLeastTop) (defScope sLeastTop) .none kV8 dc8 pm8 an8 cd8 ct8), sl8⟩) (c8 : PySem.W.codeIn K cd8 "least_top" = true) (k8 : PySem.W.keepIn K (.ref f8) = true)
    (a9 : PySem.W.nsIn K mainGlobals "is_least_in" = some (some (.ref f9))) (l9 : K.lookup f9 = some ⟨oc9, od9, .func (PySem.W.fnOf "is_least_in" "is_least_in" (defArgs sLeastIn) (defBody sLeastIn) (defScope sLeastIn) .none kV9 dc9 pm9 an9 cd9 ct9), sl9⟩) (c9 : PySem.W.codeIn K cd9 "is_least_in" = true) (k9 : PySem.W.keepIn K (.ref f9) = true)
    (a10 : PySem.W.nsIn K mainGlobals "simplest" = some (some (.ref f10))) (l10 : K.lookup f10 = some ⟨oc10, od10, .func (PySem.W.fnOf "simplest" "simplest" (defArgs sSimplest) (defBody sSimplest) (defScope sSimplest) .none kV10 dc10 pm10 an10 cd10 ct10), sl10⟩) (c10 : PySem.W.codeIn K cd10 "simplest" = true) (k10 : PySem.W.keepIn K (.ref f10) = true)
    (a11 : PySem.W.nsIn K mainGlobals "_law_basin" = some (some (.ref f11))) (l11 : K.lookup f11 = some ⟨oc11, od11, .func (PySem.W.fnOf "_law_basin" "_law_basin" (defArgs sBasin) (defBody sBasin) (defScope sBasin) .none kV11 dc11 pm11 an11 cd11 ct11), sl11⟩) (c11 : PySem.W.codeIn K cd11 "_law_basin" = true) (k11 : PySem.W.keepIn K (.ref f11) = true)
    (a12 : PySem.W.nsIn K mainGlobals "_law_ladle" = some (some (.ref f12))) (l12 : K.lookup f12 = some ⟨oc12, od12, .func (PySem.W.fnOf "_law_ladle" "_law_ladle" (defArgs sLadle) (defBody sLadle) (defScope sLadle) .none kV12 dc12 pm12 an12 cd12 ct12), sl12⟩) (c12 : PySem.W.codeIn K cd12 "_law_ladle" = true) (k12 : PySem.W.keepIn K (.ref f12) = true)
    (a13 : PySem.W.nsIn K mainGlobals "_law_lowest" = some (some (.ref f13))) (l13 : K.lookup f13 = some ⟨oc13, od13, .func (PySem.W.fnOf "_law_lowest" "_law_lowest" (defArgs sLLow) (defBody sLLow) (defScope sLLow) .none kV13 dc13 pm13 an13 cd13 ct13), sl13⟩) (c13 : PySem.W.codeIn K cd13 "_law_lowest" = true) (k13 : PySem.W.keepIn K (.ref f13) = true)
    (a14 : PySem.W.nsIn K mainGlobals "_law_log" = some (some (.ref f14))) (l14 : K.lookup f14 = some ⟨oc14, od14, .func (PySem.W.fnOf "_law_log" "_law_log" (defArgs sLog) (defBody sLog) (defScope sLog) .none kV14 dc14 pm14 an14 cd14 ct14), sl14⟩) (c14 : PySem.W.codeIn K cd14 "_law_log" = true) (k14 : PySem.W.keepIn K (.ref f14) = true)
    (a15 : PySem.W.nsIn K mainGlobals "_law_edges" = some (some (.ref f15))) (l15 : K.lookup f15 = some ⟨oc15, od15, .func (PySem.W.fnOf "_law_edges" "_law_edges" (defArgs sEdges) (defBody sEdges) (defScope sEdges) .none kV15 dc15 pm15 an15 cd15 ct15), sl15⟩) (c15 : PySem.W.codeIn K cd15 "_law_edges" = true) (k15 : PySem.W.keepIn K (.ref f15) = true)
    (a16 : PySem.W.nsIn K mainGlobals "_law_suits" = some (some (.ref f16))) (l16 : K.lookup f16 = some ⟨oc16, od16, .func (PySem.W.fnOf "_law_suits" "_law_suits" (defArgs sSuits) (defBody sSuits) (defScope sSuits) .none kV16 dc16 pm16 an16 cd16 ct16), sl16⟩) (c16 : PySem.W.codeIn K cd16 "_law_suits" = true) (k16 : PySem.W.keepIn K (.ref f16) = true)
    (a17 : PySem.W.nsIn K mainGlobals "_law_first_share" = some (some (.ref f17))) (l17 : K.lookup f17 = some ⟨oc17, od17, .func (PySem.W.fnOf "_law_first_share" "_law_first_share" (defArgs sFirst) (defBody sFirst) (defScope sFirst) .none kV17 dc17 pm17 an17 cd17 ct17), sl17⟩) (c17 : PySem.W.codeIn K cd17 "_law_first_share" = true) (k17 : PySem.W.keepIn K (.ref f17) = true)
    (a18 : PySem.W.nsIn K mainGlobals "_law_log_right" = some (some (.ref f18))) (l18 : K.lookup f18 = some ⟨oc18, od18, .func (PySem.W.fnOf "_law_log_right" "_law_log_right" (defArgs sLogRight) (defBody sLogRight) (defScope sLogRight) .none kV18 dc18 pm18 an18 cd18 ct18), sl18⟩) (c18 : PySem.W.codeIn K cd18 "_law_log_right" = true) (k18 : PySem.W.keepIn K (.ref f18) = true)
    (a19 : PySem.W.nsIn K mainGlobals "_law_right" = some (some (.ref f19))) (l19 : K.lookup f19 = some ⟨oc19, od19, .func (PySem.W.fnOf "_law_right" "_law_right" (defArgs sRight) (defBody sRight) (defScope sRight) .none kV19 dc19 pm19 an19 cd19 ct19), sl19⟩) (c19 : PySem.W.codeIn K cd19 "_law_right" = true) (k19 : PySem.W.keepIn K (.ref f19) = true)
    (a20 : PySem.W.nsIn K mainGlobals "law" = some (some (.ref f20))) (l20 : K.lookup f20 = some ⟨oc20, od20, .func (PySem.W.fnOf "law" "law" (defArgs sLaw) (defBody sLaw) (defScope sLaw) .none kV20 dc20 pm20 an20 cd20 ct20), sl20⟩) (c20 : PySem.W.codeIn K cd20 "law" = true) (k20 : PySem.W.keepIn K (.ref f20) = true)
    (z_isi : PySem.W.nsIn K mainGlobals "isinstance" = some none)
    (z_int : PySem.W.nsIn K mainGlobals "int" = some none)
    (z_bool : PySem.W.nsIn K mainGlobals "bool" = some none)
    (z_tup : PySem.W.nsIn K mainGlobals "tuple" = some none)
    (z_enum : PySem.W.nsIn K mainGlobals "enumerate" = some none)
    (z_max : PySem.W.nsIn K mainGlobals "max" = some none)
    (z_min : PySem.W.nsIn K mainGlobals "min" = some none)
    (z_len : PySem.W.nsIn K mainGlobals "len" = some none)
    (z_abs : PySem.W.nsIn K mainGlobals "abs" = some none)
    (z_divmod : PySem.W.nsIn K mainGlobals "divmod" = some none)
    (z_range : PySem.W.nsIn K mainGlobals "range" = some none)
    (z_repr : PySem.W.nsIn K mainGlobals "repr" = some none)
    {tm : Tok} (z_most : PySem.W.nsIn K mainGlobals "MOST_LOG" = some (some (.int 200 tm))) :
    ∃ fd : FuncData, (∀ (s : Shared) (v : Value), BindsTo s fd ⟨[v], []⟩ [("_law_script", v)]) ∧ ∀ base : Heap, K.In base → base.Ns mainGlobals mg → FnG l.prog w K mg base 8 fa fd ["_law_script"] (spLaw K) := by
  have e := hfa.symm.trans (PySem.W.mg_of X G a20)
  cases e
  have A1 := at_mk (ps := ["one", "other"]) X G (⟨a1, ⟨_, _, _, l1⟩, c1, k1⟩ : Left K "divisor" sDivisor f1 kV1 dc1 pm1 cd1 ct1 an1) (fun _ _ _ _ _ _ us hl => match us, hl with | [_, _], _ => rfl)
  have A2 := at_mk (ps := ["top", "bottom"]) X G (⟨a2, ⟨_, _, _, l2⟩, c2, k2⟩ : Left K "lowest" sLowest f2 kV2 dc2 pm2 cd2 ct2 an2) (fun _ _ _ _ _ _ us hl => match us, hl with | [_, _], _ => rfl)
  have A3 := at_mk (ps := ["one", "other"]) X G (⟨a3, ⟨_, _, _, l3⟩, c3, k3⟩ : Left K "is_less" sLess f3 kV3 dc3 pm3 cd3 ct3 an3) (fun _ _ _ _ _ _ us hl => match us, hl with | [_, _], _ => rfl)
  have A4 := at_mk (ps := ["value"]) X G (⟨a4, ⟨_, _, _, l4⟩, c4, k4⟩ : Left K "is_integer" sIsInt f4 kV4 dc4 pm4 cd4 ct4 an4) (fun _ _ _ _ _ _ us hl => match us, hl with | [_], _ => rfl)
  have A5 := at_mk (ps := ["value", "low", "high"]) X G (⟨a5, ⟨_, _, _, l5⟩, c5, k5⟩ : Left K "is_between" sBetween f5 kV5 dc5 pm5 cd5 ct5 an5) (fun _ _ _ _ _ _ us hl => match us, hl with | [_, _, _], _ => rfl)
  have A6 := at_mk (ps := ["log"]) X G (⟨a6, ⟨_, _, _, l6⟩, c6, k6⟩ : Left K "check_log" sCheck f6 kV6 dc6 pm6 cd6 ct6 an6) (fun _ _ _ _ _ _ us hl => match us, hl with | [_], _ => rfl)
  have A7 := at_mk (ps := ["log"]) X G (⟨a7, ⟨_, _, _, l7⟩, c7, k7⟩ : Left K "bounds" sBounds f7 kV7 dc7 pm7 cd7 ct7 an7) (fun _ _ _ _ _ _ us hl => match us, hl with | [_], _ => rfl)
  have A8 := at_mk (ps := ["low", "bottom"]) X G (⟨a8, ⟨_, _, _, l8⟩, c8, k8⟩ : Left K "least_top" sLeastTop f8 kV8 dc8 pm8 cd8 ct8 an8) (fun _ _ _ _ _ _ us hl => match us, hl with | [_, _], _ => rfl)
  have A9 := at_mk (ps := ["ends", "top", "bottom"]) X G (⟨a9, ⟨_, _, _, l9⟩, c9, k9⟩ : Left K "is_least_in" sLeastIn f9 kV9 dc9 pm9 cd9 ct9 an9) (fun _ _ _ _ _ _ us hl => match us, hl with | [_, _, _], _ => rfl)
  have A10 := at_mk (ps := ["log"]) X G (⟨a10, ⟨_, _, _, l10⟩, c10, k10⟩ : Left K "simplest" sSimplest f10 kV10 dc10 pm10 cd10 ct10 an10) (fun _ _ _ _ _ _ us hl => match us, hl with | [_], _ => rfl)
  have A11 := at_mk (ps := ["_law_script", "_law_at"]) X G (⟨a11, ⟨_, _, _, l11⟩, c11, k11⟩ : Left K "_law_basin" sBasin f11 kV11 dc11 pm11 cd11 ct11 an11) (fun _ _ _ _ _ _ us hl => match us, hl with | [_, _], _ => rfl)
  have A12 := at_mk (ps := ["_law_basin_here", "_law_many"]) X G (⟨a12, ⟨_, _, _, l12⟩, c12, k12⟩ : Left K "_law_ladle" sLadle f12 kV12 dc12 pm12 cd12 ct12 an12) (fun _ _ _ _ _ _ us hl => match us, hl with | [_, _], _ => rfl)
  have A13 := at_mk (ps := ["_law_top", "_law_bottom"]) X G (⟨a13, ⟨_, _, _, l13⟩, c13, k13⟩ : Left K "_law_lowest" sLLow f13 kV13 dc13 pm13 cd13 ct13 an13) (fun _ _ _ _ _ _ us hl => match us, hl with | [_, _], _ => rfl)
  have A14 := at_mk (ps := ["_law_basin_here", "_law_most"]) X G (⟨a14, ⟨_, _, _, l14⟩, c14, k14⟩ : Left K "_law_log" sLog f14 kV14 dc14 pm14 cd14 ct14 an14) (fun _ _ _ _ _ _ us hl => match us, hl with | [_, _], _ => rfl)
  have A15 := at_mk (ps := ["_law_told_ticks"]) X G (⟨a15, ⟨_, _, _, l15⟩, c15, k15⟩ : Left K "_law_edges" sEdges f15 kV15 dc15 pm15 cd15 ct15 an15) (fun _ _ _ _ _ _ us hl => match us, hl with | [_], _ => rfl)
  have A16 := at_mk (ps := ["_law_told_ticks", "_law_e", "_law_p"]) X G (⟨a16, ⟨_, _, _, l16⟩, c16, k16⟩ : Left K "_law_suits" sSuits f16 kV16 dc16 pm16 cd16 ct16 an16) (fun _ _ _ _ _ _ us hl => match us, hl with | [_, _, _], _ => rfl)
  have A17 := at_mk (ps := ["_law_low", "_law_high"]) X G (⟨a17, ⟨_, _, _, l17⟩, c17, k17⟩ : Left K "_law_first_share" sFirst f17 kV17 dc17 pm17 cd17 ct17 an17) (fun _ _ _ _ _ _ us hl => match us, hl with | [_, _], _ => rfl)
  have A18 := at_mk (ps := ["_law_told_ticks"]) X G (⟨a18, ⟨_, _, _, l18⟩, c18, k18⟩ : Left K "_law_log_right" sLogRight f18 kV18 dc18 pm18 cd18 ct18 an18) (fun _ _ _ _ _ _ us hl => match us, hl with | [_], _ => rfl)
  have A19 := at_mk (ps := ["_law_basin_here"]) X G (⟨a19, ⟨_, _, _, l19⟩, c19, k19⟩ : Left K "_law_right" sRight f19 kV19 dc19 pm19 cd19 ct19 an19) (fun _ _ _ _ _ _ us hl => match us, hl with | [_], _ => rfl)
  have A20 := at_mk (ps := ["_law_script"]) X G (⟨a20, ⟨_, _, _, l20⟩, c20, k20⟩ : Left K "law" sLaw fa kV20 dc20 pm20 cd20 ct20 an20) (fun _ _ _ _ _ _ us hl => match us, hl with | [_], _ => rfl)
  have T : Top mg := { isi := PySem.W.mg_none_of X G z_isi, int := PySem.W.mg_none_of X G z_int, bool := PySem.W.mg_none_of X G z_bool, tup := PySem.W.mg_none_of X G z_tup, enum := PySem.W.mg_none_of X G z_enum, max := PySem.W.mg_none_of X G z_max, min := PySem.W.mg_none_of X G z_min, len := PySem.W.mg_none_of X G z_len, abs := PySem.W.mg_none_of X G z_abs, divmod := PySem.W.mg_none_of X G z_divmod, range := PySem.W.mg_none_of X G z_range, repr := PySem.W.mg_none_of X G z_repr, most := ⟨tm, PySem.W.mg_of X G z_most⟩ }
  have D : Deps K mg _ _ _ _ _ _ _ _ _ _ _ _ _ _ _ _ _ _ := ⟨A7, A6, A5, A4, A2, A1, A3, A8, A9⟩
  have L : LawDeps K mg _ _ _ _ _ _ _ _ _ _ := ⟨A15, A17, A16, A13, A10⟩
  refine ⟨PySem.W.fnOf "law" "law" (defArgs sLaw) (defBody sLaw) (defScope sLaw) .none kV20 dc20 pm20 an20 cd20 ct20, fun s v => .of_eq rfl, fun base _ _ => ?_⟩
  have GR := ok_logRight (P := l.prog) (w := w) (base := base) A18.F D L T
  have GG := ok_log (P := l.prog) (w := w) (base := base) A14.F A12 T
  have GQ := ok_right (P := l.prog) (w := w) (base := base) A19.F A14 A18 GG GR T
  have GB := ok_basin (P := l.prog) (w := w) (base := base) A11.F T
  exact ok_law A20.F A11 A19 GB GQ T
end Tk
open PySem PySem.W PyProof.Rows
set_option maxHeartbeats 0 in
theorem PySem.Challenge.cw_tickshares_k19_whole_simplest_shares_holds : PySem.Challenge.rw_tickshares_k19_whole_simplest_shares.Holds := by
  w_on; o_law; k_head; (case hw => w_witness2)
  k_fill
  refine Tk.walk_G (l := PySem.Challenge.rw_tickshares_k19_whole_simplest_shares) (n := 63) (k := 8) (x := "_law_script") (sp := Tk.spLaw) rfl (by decide) rfl ⟨rfl, by decide, by decide⟩ (fun w h Y => PySem.W.kIn_of Y) ?F (fun K H a ns hl hS => ⟨a, ns, rfl, hS, hl, fun _ => rfl⟩)
  case F =>
    intro w mg fa h KX G hmg
    refine' Tk.all_mk KX G hmg ?a1 ?l1 ?c1 ?k1 ?a2 ?l2 ?c2 ?k2 ?a3 ?l3 ?c3 ?k3 ?a4 ?l4 ?c4 ?k4 ?a5 ?l5 ?c5 ?k5 ?a6 ?l6 ?c6 ?k6 ?a7 ?l7 ?c7 ?k7 ?a8 ?l8 ?c8 ?k8 ?a9 ?l9 ?c9 ?k9 ?a10 ?l10 ?c10 ?k10 ?a11 ?l11 ?c11 ?k11 ?a12 ?l12 ?c12 ?k12 ?a13 ?l13 ?c13 ?k13 ?a14 ?l14 ?c14 ?k14 ?a15 ?l15 ?c15 ?k15 ?a16 ?l16 ?c16 ?k16 ?a17 ?l17 ?c17 ?k17 ?a18 ?l18 ?c18 ?k18 ?a19 ?l19 ?c19 ?k19 ?a20 ?l20 ?c20 ?k20 ?z_isi ?z_int ?z_bool ?z_tup ?z_enum ?z_max ?z_min ?z_len ?z_abs ?z_divmod ?z_range ?z_repr ?z_most
    (case a1 => k_is)
    (case l1 => k_is)
    (case c1 => k_is)
    (case k1 => k_is)
    (case a2 => k_is)
    (case l2 => k_is)
    (case c2 => k_is)
    (case k2 => k_is)
    (case a3 => k_is)
    (case l3 => k_is)
    (case c3 => k_is)
    (case k3 => k_is)
    (case a4 => k_is)
    (case l4 => k_is)
    (case c4 => k_is)
    (case k4 => k_is)
    (case a5 => k_is)
    (case l5 => k_is)
    (case c5 => k_is)
    (case k5 => k_is)
    (case a6 => k_is)
    (case l6 => k_is)
    (case c6 => k_is)
    (case k6 => k_is)
    (case a7 => k_is)
    (case l7 => k_is)
    (case c7 => k_is)
    (case k7 => k_is)
    (case a8 => k_is)
    (case l8 => k_is)
    (case c8 => k_is)
    (case k8 => k_is)
    (case a9 => k_is)
    (case l9 => k_is)
    (case c9 => k_is)
    (case k9 => k_is)
    (case a10 => k_is)
    (case l10 => k_is)
    (case c10 => k_is)
    (case k10 => k_is)
    (case a11 => k_is)
    (case l11 => k_is)
    (case c11 => k_is)
    (case k11 => k_is)
    (case a12 => k_is)
    (case l12 => k_is)
    (case c12 => k_is)
    (case k12 => k_is)
    (case a13 => k_is)
    (case l13 => k_is)
    (case c13 => k_is)
    (case k13 => k_is)
    (case a14 => k_is)
    (case l14 => k_is)
    (case c14 => k_is)
    (case k14 => k_is)
    (case a15 => k_is)
    (case l15 => k_is)
    (case c15 => k_is)
    (case k15 => k_is)
    (case a16 => k_is)
    (case l16 => k_is)
    (case c16 => k_is)
    (case k16 => k_is)
    (case a17 => k_is)
    (case l17 => k_is)
    (case c17 => k_is)
    (case k17 => k_is)
    (case a18 => k_is)
    (case l18 => k_is)
    (case c18 => k_is)
    (case k18 => k_is)
    (case a19 => k_is)
    (case l19 => k_is)
    (case c19 => k_is)
    (case k19 => k_is)
    (case a20 => k_is)
    (case l20 => k_is)
    (case c20 => k_is)
    (case k20 => k_is)
    (case z_isi => k_is)
    (case z_int => k_is)
    (case z_bool => k_is)
    (case z_tup => k_is)
    (case z_enum => k_is)
    (case z_max => k_is)
    (case z_min => k_is)
    (case z_len => k_is)
    (case z_abs => k_is)
    (case z_divmod => k_is)
    (case z_range => k_is)
    (case z_repr => k_is)
    (case z_most => k_is)
