import PyProof.Rows.All
import Wide.All
import OpenK.AllK
import Wide.FinOn
import KE.KMathG
import HandS.ForMost
import HandS.Star
import HandS.Defaults
import HandS.MakeKwOnly
import HandS.Exc
import HandS.Wide
import HandS.Gcd
import HandS.Deep
import HandS.Conv
import HandS.NoneIn
import HandS.Strs
import HandS.StrMore
import HandS.Flt
import HandS.Evl
import HandS.HeadHook4
import Flt.RightSqrt
import PySem.Challenge.RW_armwarrant_k82_whole_long_arms
import KE.KStateDown
import HandS.Head0
import HandS.Head1
import HandS.Head2
import HandS.Head3
import HandS.HeadEnd
set_option Elab.async false
set_option linter.all false
set_option maxRecDepth 100000
set_option maxHeartbeats 0
/-! The bound of point 22, in plain rationals: turns by half tangents, shifts, offsets. -/
namespace K82
/-- three rationals -/
structure Q3 where
  x : Rat
  y : Rat
  z : Rat
namespace Q3
def add (a b : Q3) : Q3 := ⟨a.x + b.x, a.y + b.y, a.z + b.z⟩
def sub (a b : Q3) : Q3 := ⟨a.x - b.x, a.y - b.y, a.z - b.z⟩
def sq (a : Q3) : Rat := a.x * a.x + a.y * a.y + a.z * a.z
/-- turned about an axis by the half tangent t -/
def rot (ax : Nat) (t : Rat) (p : Q3) : Q3 :=
  let w := (1 + t * t)⁻¹
  let c := (1 - t * t) * w
  let s := 2 * t * w
  if ax = 0 then ⟨p.x, p.y * c - p.z * s, p.y * s + p.z * c⟩
  else if ax = 1 then ⟨p.z * s + p.x * c, p.y, p.z * c - p.x * s⟩
  else ⟨p.x * c - p.y * s, p.x * s + p.y * c, p.z⟩
/-- moved along an axis -/
def along (ax : Nat) (t : Rat) (p : Q3) : Q3 :=
  if ax = 0 then ⟨p.x + t, p.y, p.z⟩ else if ax = 1 then ⟨p.x, p.y + t, p.z⟩ else ⟨p.x, p.y, p.z + t⟩
end Q3
open Q3
/-- as long as r at most -/
def Le (v : Q3) (r : Rat) : Prop := 0 ≤ r ∧ v.sq ≤ r * r

theorem sq_nonneg (a : Rat) : 0 ≤ a * a := by
  rcases Rat.le_total (a := 0) (b := a) with h | h
  · exact Rat.mul_nonneg h h
  · have h1 : 0 ≤ -a := by grind
    have := Rat.mul_nonneg h1 h1
    grind
theorem mul_mono {a b c d : Rat} (h1 : a ≤ b) (h2 : c ≤ d) (ha : 0 ≤ a) (hc : 0 ≤ c) : a * c ≤ b * d := by
  have e1 := Rat.mul_le_mul_of_nonneg_right h1 hc
  have e2 := Rat.mul_le_mul_of_nonneg_left h2 (Rat.le_trans ha h1)
  grind
theorem sqrt_mono {a b : Rat} (hb : 0 ≤ b) (h : a * a ≤ b * b) : a ≤ b := by
  rcases Rat.le_total (a := a) (b := b) with h1 | h1
  · exact h1
  · have h2 := mul_mono h1 h1 hb hb
    rcases Rat.le_total (a := b) (b := a) with _ | h3
    · by_cases e : a = b
      · exact e ▸ Rat.le_refl
      · have hlt : b < a := by grind
        have h4 : 0 < a - b := by grind
        have h5 : 0 < a + b := by grind
        have h6 := Rat.mul_pos h4 h5
        grind
    · exact h3
theorem Le.mono {v : Q3} {r s : Rat} (h : Le v r) (hs : r ≤ s) : Le v s :=
  ⟨Rat.le_trans h.1 hs, Rat.le_trans h.2 (mul_mono hs hs h.1 h.1)⟩
theorem cauchy (v w : Q3) : (v.x * w.x + v.y * w.y + v.z * w.z) * (v.x * w.x + v.y * w.y + v.z * w.z) ≤ v.sq * w.sq := by
  have h1 := sq_nonneg (v.x * w.y - v.y * w.x)
  have h2 := sq_nonneg (v.x * w.z - v.z * w.x)
  have h3 := sq_nonneg (v.y * w.z - v.z * w.y)
  unfold sq
  grind
theorem sq0 (v : Q3) : 0 ≤ v.sq := by
  have h1 := sq_nonneg v.x
  have h2 := sq_nonneg v.y
  have h3 := sq_nonneg v.z
  unfold sq
  grind
theorem Le.add {v w : Q3} {r s : Rat} (h : Le v r) (k : Le w s) : Le (v.add w) (r + s) := by
  obtain ⟨h0, h1⟩ := h
  obtain ⟨k0, k1⟩ := k
  have c := cauchy v w
  have m := mul_mono h1 k1 (sq0 v) (sq0 w)
  have rs := Rat.mul_nonneg h0 k0
  have d : v.x * w.x + v.y * w.y + v.z * w.z ≤ r * s := by
    refine sqrt_mono rs (Rat.le_trans c ?_)
    grind
  refine ⟨by grind, ?_⟩
  have e : (v.add w).sq = v.sq + w.sq + 2 * (v.x * w.x + v.y * w.y + v.z * w.z) := by
    unfold sq Q3.add
    grind
  rw [e]
  grind
theorem one_sq_pos (t : Rat) : 0 < 1 + t * t := by
  have := sq_nonneg t
  grind
theorem inv_eq (t : Rat) : (1 + t * t) * (1 + t * t)⁻¹ = 1 := Rat.mul_inv_cancel _ (by have := one_sq_pos t; grind)
theorem rot_sq (ax : Nat) (t : Rat) (p : Q3) : (p.rot ax t).sq = p.sq := by
  have h := inv_eq t
  unfold Q3.rot sq
  generalize (1 + t * t)⁻¹ = w at h
  split
  · grind
  · split
    · grind
    · grind
theorem rot_sub (ax : Nat) (t : Rat) (p q : Q3) : (p.rot ax t).sub (q.rot ax t) = (p.sub q).rot ax t := by
  unfold Q3.rot Q3.sub
  split
  · simp only [Q3.mk.injEq]; grind
  · split
    · simp only [Q3.mk.injEq]; grind
    · simp only [Q3.mk.injEq]; grind
theorem inv_le (t : Rat) : 0 ≤ (1 + t * t)⁻¹ ∧ (1 + t * t)⁻¹ ≤ 1 := by
  have h := inv_eq t
  have p := one_sq_pos t
  have q := sq_nonneg t
  generalize hw : (1 + t * t)⁻¹ = w at h
  have w0 : 0 ≤ w := by
    rw [← hw]
    exact Rat.le_of_lt (Rat.inv_pos.mpr p)
  refine ⟨w0, ?_⟩
  have := Rat.mul_nonneg q w0
  grind
/-- the chord: two turns by the half tangents t and u -/
theorem Le.chord {p : Q3} {l d t u : Rat} (ax : Nat) (h : Le p l) (hd : 0 ≤ d) (h1 : t - u ≤ d) (h2 : u - t ≤ d) : Le ((p.rot ax t).sub (p.rot ax u)) (2 * d * l) := by
  have ht := inv_eq t
  have hu := inv_eq u
  obtain ⟨a0, a1⟩ := inv_le t
  obtain ⟨b0, b1⟩ := inv_le u
  have l0 := h.1
  have dl := Rat.mul_nonneg hd l0
  refine ⟨by grind, ?_⟩
  have tu : (t - u) * (t - u) ≤ d * d := by
    rcases Rat.le_total (a := u) (b := t) with z | z
    · exact mul_mono h1 h1 (by grind) (by grind)
    · have := mul_mono h2 h2 (by grind) (by grind)
      grind
  have ab : (1 + t * t)⁻¹ * (1 + u * u)⁻¹ ≤ 1 := by
    have := mul_mono a1 b1 a0 b0
    grind
  have ab0 := Rat.mul_nonneg a0 b0
  -- 4 (t-u)^2 a b * (part of the square) <= 4 d^2 l^2
  have main : ∀ s : Rat, 0 ≤ s → s ≤ p.sq → 4 * ((t - u) * (t - u)) * ((1 + t * t)⁻¹ * (1 + u * u)⁻¹) * s ≤ 2 * d * l * (2 * d * l) := by
    intro s s0 s1
    have e1 := mul_mono tu ab (sq_nonneg (t - u)) ab0
    have e2 : (t - u) * (t - u) * ((1 + t * t)⁻¹ * (1 + u * u)⁻¹) * s ≤ d * d * 1 * (l * l) := mul_mono e1 (Rat.le_trans s1 h.2) (Rat.mul_nonneg (sq_nonneg (t - u)) ab0) s0
    grind
  have x0 := sq_nonneg p.x
  have y0 := sq_nonneg p.y
  have z0 := sq_nonneg p.z
  have mx := main (p.y * p.y + p.z * p.z) (by grind) (by unfold sq; grind)
  have my := main (p.z * p.z + p.x * p.x) (by grind) (by unfold sq; grind)
  have mz := main (p.x * p.x + p.y * p.y) (by grind) (by unfold sq; grind)
  unfold Q3.rot Q3.sub
  unfold sq
  generalize (1 + t * t)⁻¹ = a at *
  generalize (1 + u * u)⁻¹ = b at *
  have cc : ((1 - t*t)*a - (1-u*u)*b)*((1 - t*t)*a - (1-u*u)*b) + (2*t*a - 2*u*b)*(2*t*a - 2*u*b) = 4*((t-u)*(t-u))*(a*b) := by grind
  split
  · refine Rat.le_trans ?_ mx
    rw [← cc]
    grind
  · split
    · refine Rat.le_trans ?_ my
      rw [← cc]
      grind
    · refine Rat.le_trans ?_ mz
      rw [← cc]
      grind
theorem Le.rot {p : Q3} {l : Rat} (ax : Nat) (t : Rat) (h : Le p l) : Le (p.rot ax t) l := ⟨h.1, by rw [rot_sq]; exact h.2⟩
end K82
/-! The places and the bound over whole numbers. -/
namespace K82
open Q3
structure I3 where
  x : Int
  y : Int
  z : Int
  deriving DecidableEq, Inhabited
/-- an exact place -/
structure P4 where
  x : Int
  y : Int
  z : Int
  w : Int
  deriving DecidableEq, Inhabited
structure JointD where
  turns : Bool
  axis : Nat
  offset : I3
  least : Int
  most : Int
  box : Int
  error : Int
  deriving DecidableEq, Inhabited
structure BodyD where
  first : I3
  last : I3
  radius : Int
  deriving DecidableEq, Inhabited
def I3.sq (v : I3) : Int := v.x * v.x + v.y * v.y + v.z * v.z
def I3.q (v : I3) : Q3 := ⟨v.x, v.y, v.z⟩
def P4.q (p : P4) : Q3 := ⟨(p.x : Rat) / (p.w : Rat), (p.y : Rat) / (p.w : Rat), (p.z : Rat) / (p.w : Rat)⟩
def I3.p4 (v : I3) : P4 := ⟨v.x, v.y, v.z, 1⟩

/-! ### what the defs compute -/
def turnedM (p : P4) (ax : Nat) (over under : Int) : P4 :=
  let s := under * under - over * over
  let c := 2 * over * under
  let wh := under * under + over * over
  if ax = 0 then ⟨p.x * wh, p.y * s - p.z * c, p.y * c + p.z * s, p.w * wh⟩
  else if ax = 1 then ⟨p.z * c + p.x * s, p.y * wh, p.z * s - p.x * c, p.w * wh⟩
  else ⟨p.x * s - p.y * c, p.x * c + p.y * s, p.z * wh, p.w * wh⟩
def shiftedM (p : P4) (ax : Nat) (over under : Int) : P4 :=
  if ax = 0 then ⟨p.x * under + over * p.w, p.y * under, p.z * under, p.w * under⟩
  else if ax = 1 then ⟨p.x * under, p.y * under + over * p.w, p.z * under, p.w * under⟩
  else ⟨p.x * under, p.y * under, p.z * under + over * p.w, p.w * under⟩
def addedM (p o : P4) : P4 := ⟨p.x * o.w + o.x * p.w, p.y * o.w + o.y * p.w, p.z * o.w + o.z * p.w, p.w * o.w⟩
def commonM (p : P4) : Int := ((Nat.gcd (Nat.gcd p.x.natAbs p.y.natAbs) (Nat.gcd p.z.natAbs p.w.natAbs) : Nat) : Int)
def reducedM (p : P4) : P4 := ⟨p.x / commonM p, p.y / commonM p, p.z / commonM p, p.w / commonM p⟩
def movedM (j : JointD) (v : Int × Int) (p : P4) : P4 := if j.turns then turnedM p j.axis v.1 (v.2 * 1000000) else shiftedM p j.axis v.1 v.2
def stepM (j : JointD) (v : Int × Int) (o p : P4) : P4 := reducedM (addedM (movedM j v p) o)
def trueM (js : List JointD) (vals : List (Int × Int)) (offs : List P4) : Nat → P4 → P4
  | 0, p => p
  | k + 1, p => trueM js vals offs k (stepM (js.getD k default) (vals.getD k default) (offs.getD k default) p)
def dueM (js : List JointD) (vals : List (Int × Int)) (offs : List P4) : Nat → P4 → P4
  | 0, p => p
  | k + 1, p => dueM js vals offs k (addedM (movedM (js.getD k default) (vals.getD k default) p) (offs.getD k default))
def toldOffs (js : List JointD) : List P4 := js.map fun j => j.offset.p4
def rowVals (row : List Int) : List (Int × Int) := row.map fun v => (v, 1)
def flo (p : P4) : I3 := ⟨p.x / p.w, p.y / p.w, p.z / p.w⟩
def spotM (js : List JointD) (row : List Int) (link : Nat) (v : I3) : I3 := flo (trueM js (rowVals row) (toldOffs js) link v.p4)
def divUp (n d : Int) : Int := -((-n) / d)
def max2 (a b : Int) : Int := if b > a then b else a
def absI (a : Int) : Int := if a < 0 then -a else a
def unkGo (L : I3 → Int) (js : List JointD) (hs : List Int) : Nat → Int → Int → Int
  | 0, a, _ => a
  | k + 1, a, l =>
    let j := js.getD k default
    let loose := hs.getD k 0 + j.error
    unkGo L js hs k ((if j.turns then a + divUp (2 * l * loose) 1000000 else a + loose) + 2 * j.box) ((if j.turns then l else l + max2 (absI j.least) (absI j.most) + j.error) + L j.offset + 2 * j.box)
def unkM (L : I3 → Int) (js : List JointD) (hs : List Int) (link : Nat) (b : BodyD) : Int := unkGo L js hs link 2 (max2 (L b.first) (L b.last))

/-! ### the same in rationals -/
def movedQ (j : JointD) (t : Rat) (p : Q3) : Q3 := if j.turns then p.rot j.axis t else p.along j.axis t
def placeQ (js : List JointD) (ts : Nat → Rat) (os : Nat → Q3) : Nat → Q3 → Q3
  | 0, p => p
  | k + 1, p => placeQ js ts os k ((movedQ (js.getD k default) (ts k) p).add (os k))
/-- the value as a rational: a half tangent, a length -/
def valQ (j : JointD) (v : Int × Int) : Rat := if j.turns then (v.1 : Rat) / ((v.2 : Rat) * 1000000) else (v.1 : Rat) / (v.2 : Rat)

theorem castpos {a : Int} (h : 0 < a) : (0 : Rat) < (a : Rat) := by
  have := Rat.intCast_lt_intCast.mpr h
  simpa using this
theorem castne {a : Int} (h : 0 < a) : (a : Rat) ≠ 0 := fun e => by
  have := castpos h
  grind
theorem turned_q {p : P4} {ax : Nat} {over under : Int} (hu : 0 < under) (hw : 0 < p.w) : (turnedM p ax over under).q = p.q.rot ax ((over : Rat) / (under : Rat)) ∧ 0 < (turnedM p ax over under).w := by
  have hwh : 0 < under * under + over * over := by
    have h1 := Int.mul_pos hu hu
    have h2 : 0 ≤ over * over := by
      rcases Int.le_total 0 over with z | z
      · exact Int.mul_nonneg z z
      · exact Int.mul_nonneg_of_nonpos_of_nonpos z z
    omega
  have hpos := Int.mul_pos hw hwh
  have u0 := castne hu
  have w0 := castne hw
  have wh0 := castne hwh
  have e1 : (1 + (over : Rat) / (under : Rat) * ((over : Rat) / (under : Rat)))⁻¹ = (under : Rat) * (under : Rat) / (((under * under + over * over : Int)) : Rat) := by
    have h := inv_eq ((over : Rat) / (under : Rat))
    generalize (1 + (over : Rat) / (under : Rat) * ((over : Rat) / (under : Rat)))⁻¹ = i at h
    have e0 : (((under * under + over * over : Int)) : Rat) = (under : Rat) * (under : Rat) + (over : Rat) * (over : Rat) := by grind
    grind
  have e0 : (((under * under + over * over : Int)) : Rat) = (under : Rat) * (under : Rat) + (over : Rat) * (over : Rat) := by grind
  refine ⟨?_, ?_⟩
  · unfold turnedM P4.q Q3.rot
    rw [e1]
    by_cases h0 : ax = 0
    · subst h0
      simp only [if_true, Q3.mk.injEq]
      refine ⟨?_, ?_, ?_⟩ <;> grind
    · by_cases h1 : ax = 1
      · subst h1
        simp only [if_true, if_neg h0, Q3.mk.injEq]
        refine ⟨?_, ?_, ?_⟩ <;> grind
      · simp only [if_neg h0, if_neg h1, Q3.mk.injEq]
        refine ⟨?_, ?_, ?_⟩ <;> grind
  · unfold turnedM
    split
    · exact hpos
    · split <;> exact hpos
theorem shifted_q {p : P4} {ax : Nat} {over under : Int} (hu : 0 < under) (hw : 0 < p.w) : (shiftedM p ax over under).q = p.q.along ax ((over : Rat) / (under : Rat)) ∧ 0 < (shiftedM p ax over under).w := by
  have hpos := Int.mul_pos hw hu
  have u0 := castne hu
  have w0 := castne hw
  refine ⟨?_, ?_⟩
  · unfold shiftedM P4.q Q3.along
    by_cases h0 : ax = 0
    · subst h0
      simp only [if_true, Q3.mk.injEq]
      refine ⟨?_, ?_, ?_⟩ <;> grind
    · by_cases h1 : ax = 1
      · subst h1
        simp only [if_true, if_neg h0, Q3.mk.injEq]
        refine ⟨?_, ?_, ?_⟩ <;> grind
      · simp only [if_neg h0, if_neg h1, Q3.mk.injEq]
        refine ⟨?_, ?_, ?_⟩ <;> grind
  · unfold shiftedM
    split
    · exact hpos
    · split <;> exact hpos
theorem added_q {p o : P4} (hp : 0 < p.w) (ho : 0 < o.w) : (addedM p o).q = p.q.add o.q ∧ 0 < (addedM p o).w := by
  have u0 := castne hp
  have w0 := castne ho
  refine ⟨?_, Int.mul_pos hp ho⟩
  unfold addedM P4.q Q3.add
  simp only [Q3.mk.injEq]
  refine ⟨?_, ?_, ?_⟩ <;> grind
theorem common_dvd (p : P4) : commonM p ∣ p.x ∧ commonM p ∣ p.y ∧ commonM p ∣ p.z ∧ commonM p ∣ p.w := by
  have h : ∀ (a : Int), Nat.gcd (Nat.gcd p.x.natAbs p.y.natAbs) (Nat.gcd p.z.natAbs p.w.natAbs) ∣ a.natAbs → commonM p ∣ a := fun a h => by
    unfold commonM
    exact Int.natAbs_dvd_natAbs.mp h
  refine ⟨h _ ?_, h _ ?_, h _ ?_, h _ ?_⟩
  · exact Nat.dvd_trans (Nat.gcd_dvd_left _ _) (Nat.gcd_dvd_left _ _)
  · exact Nat.dvd_trans (Nat.gcd_dvd_left _ _) (Nat.gcd_dvd_right _ _)
  · exact Nat.dvd_trans (Nat.gcd_dvd_right _ _) (Nat.gcd_dvd_left _ _)
  · exact Nat.dvd_trans (Nat.gcd_dvd_right _ _) (Nat.gcd_dvd_right _ _)
theorem common_pos {p : P4} (hw : 0 < p.w) : 0 < commonM p := by
  have h1 : 0 < Nat.gcd p.z.natAbs p.w.natAbs := Nat.gcd_pos_of_pos_right _ (by omega)
  have h2 : 0 < Nat.gcd (Nat.gcd p.x.natAbs p.y.natAbs) (Nat.gcd p.z.natAbs p.w.natAbs) := Nat.gcd_pos_of_pos_right _ h1
  unfold commonM
  omega
theorem reduced_q {p : P4} (hw : 0 < p.w) : (reducedM p).q = p.q ∧ 0 < (reducedM p).w := by
  have hg := common_pos hw
  obtain ⟨⟨a, ha⟩, ⟨b, hb⟩, ⟨c, hc⟩, ⟨d, hd⟩⟩ := common_dvd p
  have hd0 : 0 < d := by
    rcases Int.lt_or_le 0 d with z | z
    · exact z
    · have := Int.mul_nonpos_of_nonneg_of_nonpos (Int.le_of_lt hg) z
      omega
  have ea : p.x / commonM p = a := by rw [ha]; exact Int.mul_ediv_cancel_left a (by omega)
  have eb : p.y / commonM p = b := by rw [hb]; exact Int.mul_ediv_cancel_left b (by omega)
  have ec : p.z / commonM p = c := by rw [hc]; exact Int.mul_ediv_cancel_left c (by omega)
  have ed : p.w / commonM p = d := by rw [hd]; exact Int.mul_ediv_cancel_left d (by omega)
  have g0 := castne hg
  have d0 := castne hd0
  unfold reducedM
  rw [ea, eb, ec, ed]
  refine ⟨?_, hd0⟩
  unfold P4.q
  simp only [Q3.mk.injEq]
  generalize commonM p = g at *
  have e1 : (p.x : Rat) = g * a := by rw [ha]; grind
  have e2 : (p.y : Rat) = g * b := by rw [hb]; grind
  have e3 : (p.z : Rat) = g * c := by rw [hc]; grind
  have e4 : (p.w : Rat) = g * d := by rw [hd]; grind
  rw [e1, e2, e3, e4]
  refine ⟨?_, ?_, ?_⟩ <;> grind
theorem moved_q {j : JointD} {v : Int × Int} {p : P4} (hv : 0 < v.2) (hw : 0 < p.w) : (movedM j v p).q = movedQ j (valQ j v) p.q ∧ 0 < (movedM j v p).w := by
  unfold movedM movedQ valQ
  cases j.turns with
  | true =>
    simp only [if_true]
    have h := turned_q (p := p) (ax := j.axis) (over := v.1) (under := v.2 * 1000000) (by omega) hw
    have e : ((v.2 * 1000000 : Int) : Rat) = (v.2 : Rat) * 1000000 := by grind
    rw [e] at h
    exact h
  | false =>
    simp only [Bool.false_eq_true, if_false]
    exact shifted_q hv hw
/-- both ways of the place lead to the same rational place -/
theorem true_q {js : List JointD} {vals : List (Int × Int)} {offs : List P4} : ∀ (n : Nat) (p : P4), (∀ k, k < n → 0 < (vals.getD k default).2 ∧ 0 < (offs.getD k default).w) → 0 < p.w →
    (trueM js vals offs n p).q = placeQ js (fun k => valQ (js.getD k default) (vals.getD k default)) (fun k => (offs.getD k default).q) n p.q ∧ 0 < (trueM js vals offs n p).w
  | 0, p, _, hp => ⟨rfl, hp⟩
  | n + 1, p, h, hp => by
    obtain ⟨hv, ho⟩ := h n (Nat.lt_succ_self n)
    obtain ⟨m1, m2⟩ := moved_q (j := js.getD n default) hv hp
    obtain ⟨a1, a2⟩ := added_q m2 ho
    obtain ⟨r1, r2⟩ := reduced_q a2
    have ih := true_q (js := js) n (stepM (js.getD n default) (vals.getD n default) (offs.getD n default) p) (fun k hk => h k (Nat.lt_succ_of_lt hk)) r2
    show (trueM js vals offs n (stepM (js.getD n default) (vals.getD n default) (offs.getD n default) p)).q = placeQ js _ _ n _ ∧ _
    rw [ih.1]
    refine ⟨?_, ih.2⟩
    congr 1
    unfold stepM
    rw [r1, a1, m1]
theorem due_q {js : List JointD} {vals : List (Int × Int)} {offs : List P4} : ∀ (n : Nat) (p : P4), (∀ k, k < n → 0 < (vals.getD k default).2 ∧ 0 < (offs.getD k default).w) → 0 < p.w →
    (dueM js vals offs n p).q = placeQ js (fun k => valQ (js.getD k default) (vals.getD k default)) (fun k => (offs.getD k default).q) n p.q ∧ 0 < (dueM js vals offs n p).w
  | 0, p, _, hp => ⟨rfl, hp⟩
  | n + 1, p, h, hp => by
    obtain ⟨hv, ho⟩ := h n (Nat.lt_succ_self n)
    obtain ⟨m1, m2⟩ := moved_q (j := js.getD n default) hv hp
    obtain ⟨a1, a2⟩ := added_q m2 ho
    have ih := due_q (js := js) n (addedM (movedM (js.getD n default) (vals.getD n default) p) (offs.getD n default)) (fun k hk => h k (Nat.lt_succ_of_lt hk)) a2
    show (dueM js vals offs n (addedM (movedM (js.getD n default) (vals.getD n default) p) (offs.getD n default))).q = placeQ js _ _ n _ ∧ _
    rw [ih.1]
    refine ⟨?_, ih.2⟩
    congr 1
    rw [a1, m1]
theorem cross {p q : P4} (hp : 0 < p.w) (hq : 0 < q.w) (e : p.q = q.q) : p.x * q.w = q.x * p.w ∧ p.y * q.w = q.y * p.w ∧ p.z * q.w = q.z * p.w := by
  have p0 := castne hp
  have q0 := castne hq
  unfold P4.q at e
  simp only [Q3.mk.injEq] at e
  obtain ⟨e1, e2, e3⟩ := e
  refine ⟨?_, ?_, ?_⟩
  · apply Rat.intCast_inj.mp; grind
  · apply Rat.intCast_inj.mp; grind
  · apply Rat.intCast_inj.mp; grind
/-- the law's first test -/
theorem true_due {js : List JointD} {vals : List (Int × Int)} {offs : List P4} {n : Nat} {v : I3} (h : ∀ k, k < n → 0 < (vals.getD k default).2 ∧ 0 < (offs.getD k default).w) :
    let p := trueM js vals offs n v.p4
    let q := dueM js vals offs n v.p4
    p.x * q.w = q.x * p.w ∧ p.y * q.w = q.y * p.w ∧ p.z * q.w = q.z * p.w := by
  have h1 := true_q (js := js) n v.p4 h Int.zero_lt_one
  have h2 := due_q (js := js) n v.p4 h Int.zero_lt_one
  exact cross h1.2 h2.2 (h1.1.trans h2.1.symm)
end K82
/-! The bound: point 22. -/
namespace K82
open Q3
/-- what the law tells of each joint: its true value and offset are within what is told -/
structure Within (js : List JointD) (hs row : List Int) (vals : List (Int × Int)) (offs : List P4) (k : Nat) : Prop where
  pos : 0 < (vals.getD k default).2
  ow : (offs.getD k default).w = 1
  box0 : 0 ≤ (js.getD k default).box
  err0 : 0 ≤ (js.getD k default).error
  h0 : 0 ≤ hs.getD k 0
  near1 : (vals.getD k default).1 - (row.getD k 0) * (vals.getD k default).2 ≤ (hs.getD k 0 + (js.getD k default).error) * (vals.getD k default).2
  near2 : (row.getD k 0) * (vals.getD k default).2 - (vals.getD k default).1 ≤ (hs.getD k 0 + (js.getD k default).error) * (vals.getD k default).2
  lo : ((js.getD k default).least - (js.getD k default).error) * (vals.getD k default).2 ≤ (vals.getD k default).1
  hi : (vals.getD k default).1 ≤ ((js.getD k default).most + (js.getD k default).error) * (vals.getD k default).2
  bx1 : (offs.getD k default).x - (js.getD k default).offset.x ≤ (js.getD k default).box
  bx2 : (js.getD k default).offset.x - (offs.getD k default).x ≤ (js.getD k default).box
  by1 : (offs.getD k default).y - (js.getD k default).offset.y ≤ (js.getD k default).box
  by2 : (js.getD k default).offset.y - (offs.getD k default).y ≤ (js.getD k default).box
  bz1 : (offs.getD k default).z - (js.getD k default).offset.z ≤ (js.getD k default).box
  bz2 : (js.getD k default).offset.z - (offs.getD k default).z ≤ (js.getD k default).box

theorem castle {a b : Int} (h : a ≤ b) : (a : Rat) ≤ (b : Rat) := Rat.intCast_le_intCast.mpr h
theorem le_castle {a b : Int} (h : (a : Rat) ≤ (b : Rat)) : a ≤ b := Rat.intCast_le_intCast.mp h
theorem abs_sq {a b : Rat} (h1 : a ≤ b) (h2 : -a ≤ b) : a * a ≤ b * b := by
  rcases Rat.le_total (a := 0) (b := a) with z | z
  · exact mul_mono h1 h1 z z
  · have := mul_mono h2 h2 (by grind) (by grind)
    grind
theorem Le.box {v : Q3} {b : Rat} (x1 : v.x ≤ b) (x2 : -v.x ≤ b) (y1 : v.y ≤ b) (y2 : -v.y ≤ b) (z1 : v.z ≤ b) (z2 : -v.z ≤ b) : Le v (2 * b) := by
  have hx := abs_sq x1 x2
  have hy := abs_sq y1 y2
  have hz := abs_sq z1 z2
  have hb : 0 ≤ b := by grind
  have := sq_nonneg b
  refine ⟨by grind, ?_⟩
  unfold sq
  grind
theorem div_le_of {a b c : Rat} (hc : 0 < c) (h : a ≤ b * c) : a / c ≤ b := by
  have h1 := Rat.mul_le_mul_of_nonneg_right h (Rat.le_of_lt (Rat.inv_pos.mpr hc))
  have e : b * c * c⁻¹ = b := by grind
  rw [e] at h1
  rw [Rat.div_def]
  exact h1
theorem divUp_ge (n : Int) : (n : Rat) / 1000000 ≤ (divUp n 1000000 : Rat) := by
  have h : n ≤ divUp n 1000000 * 1000000 := by
    unfold divUp
    omega
  have h2 := castle h
  have e : ((divUp n 1000000 * 1000000 : Int) : Rat) = (divUp n 1000000 : Rat) * 1000000 := by grind
  rw [e] at h2
  exact div_le_of (by decide) h2
theorem max2_ge (a b : Int) : a ≤ max2 a b ∧ b ≤ max2 a b := by
  unfold max2
  split <;> omega
theorem absI_ge (a : Int) : a ≤ absI a ∧ -a ≤ absI a ∧ 0 ≤ absI a := by
  unfold absI
  split <;> omega
theorem le_div_of {a b c : Rat} (hc : 0 < c) (h : b * c ≤ a) : b ≤ a / c := by
  have h1 := Rat.mul_le_mul_of_nonneg_right h (Rat.le_of_lt (Rat.inv_pos.mpr hc))
  have e : b * c * c⁻¹ = b := by grind
  rw [e] at h1
  rw [Rat.div_def]
  exact h1
theorem cancel {a b c : Rat} (hc : 0 < c) (h : a * c ≤ b * c) : a ≤ b := by
  have h1 := Rat.mul_le_mul_of_nonneg_right h (Rat.le_of_lt (Rat.inv_pos.mpr hc))
  have e : b * c * c⁻¹ = b := by grind
  have e2 : a * c * c⁻¹ = a := by grind
  rw [e, e2] at h1
  exact h1
theorem dm {a b : Rat} (h : a ≤ b) : a / 1000000 ≤ b / 1000000 := by
  have h1 := Rat.mul_le_mul_of_nonneg_right h (Rat.le_of_lt (Rat.inv_pos.mpr (show (0 : Rat) < 1000000 by decide)))
  rw [Rat.div_def, Rat.div_def]
  exact h1
theorem along_sub (ax : Nat) (t u : Rat) (p q : Q3) : (p.along ax t).sub (q.along ax u) = (p.sub q).add ((⟨0, 0, 0⟩ : Q3).along ax (t - u)) := by
  unfold Q3.along Q3.sub Q3.add
  split
  · simp only [Q3.mk.injEq]; grind
  · split
    · simp only [Q3.mk.injEq]; grind
    · simp only [Q3.mk.injEq]; grind
theorem along_add (ax : Nat) (t : Rat) (p : Q3) : p.along ax t = p.add ((⟨0, 0, 0⟩ : Q3).along ax t) := by
  unfold Q3.along Q3.add
  split
  · simp only [Q3.mk.injEq]; grind
  · split
    · simp only [Q3.mk.injEq]; grind
    · simp only [Q3.mk.injEq]; grind
theorem Le.axis {ax : Nat} {t r : Rat} (h1 : t ≤ r) (h2 : -t ≤ r) : Le ((⟨0, 0, 0⟩ : Q3).along ax t) r := by
  have h := abs_sq h1 h2
  have hr : 0 ≤ r := by grind
  refine ⟨hr, ?_⟩
  unfold Q3.along sq
  split
  · grind
  · split
    · grind
    · grind
theorem Le.int {L : I3 → Int} (hL : ∀ v, 0 ≤ L v ∧ v.sq ≤ L v * L v) (v : I3) : Le v.q (L v : Rat) := by
  obtain ⟨h0, h1⟩ := hL v
  have e0 := castle h0
  have e1 := castle h1
  refine ⟨by simpa using e0, ?_⟩
  unfold I3.q sq
  unfold I3.sq at e1
  grind
/-- one joint: what is known of the turned or moved places -/
theorem moved_bound {j : JointD} {v : Int × Int} {h u l : Int} {a : Rat} {P S : Q3} (hv : 0 < v.2) (h0 : 0 ≤ h) (e0 : 0 ≤ j.error)
    (n1 : v.1 - u * v.2 ≤ (h + j.error) * v.2) (n2 : u * v.2 - v.1 ≤ (h + j.error) * v.2) (lo : (j.least - j.error) * v.2 ≤ v.1) (hi : v.1 ≤ (j.most + j.error) * v.2)
    (hPS : Le (P.sub S) a) (hP : Le P l) :
    Le ((movedQ j (valQ j v) P).sub (movedQ j (valQ j (u, 1)) S)) (a + (if j.turns then (divUp (2 * l * (h + j.error)) 1000000 : Rat) else ((h + j.error : Int) : Rat))) ∧
    Le (movedQ j (valQ j v) P) ((if j.turns then l else l + max2 (absI j.least) (absI j.most) + j.error : Int) : Rat) := by
  have vp := castpos hv
  have v0 := castne hv
  have c1 := castle n1
  have c2 := castle n2
  have c3 := castle lo
  have c4 := castle hi
  have hr : (v.1 : Rat) / v.2 * v.2 = v.1 := by grind
  have R1 : (v.1 : Rat) / v.2 - u ≤ ((h + j.error : Int) : Rat) := cancel vp (by grind)
  have R2 : (u : Rat) - (v.1 : Rat) / v.2 ≤ ((h + j.error : Int) : Rat) := cancel vp (by grind)
  have R3 : (v.1 : Rat) / v.2 ≤ ((j.most + j.error : Int) : Rat) := cancel vp (by grind)
  have R4 : ((j.least - j.error : Int) : Rat) ≤ (v.1 : Rat) / v.2 := cancel vp (by grind)
  have u1 : (u : Rat) / ((1 : Int) : Rat) = u := by grind
  unfold movedQ valQ
  cases ht : j.turns with
  | true =>
    simp only [if_true]
    refine ⟨?_, hP.rot _ _⟩
    have hd : (0 : Rat) ≤ ((h + j.error : Int) : Rat) / 1000000 := by
      have := dm (castle (show (0 : Int) ≤ h + j.error by omega))
      have e : ((0 : Int) : Rat) / 1000000 = 0 := by grind
      rw [e] at this
      exact this
    have x1 : (v.1 : Rat) / ((v.2 : Rat) * 1000000) - (u : Rat) / (((1 : Int) : Rat) * 1000000) ≤ ((h + j.error : Int) : Rat) / 1000000 := by
      have e : (v.1 : Rat) / ((v.2 : Rat) * 1000000) - (u : Rat) / (((1 : Int) : Rat) * 1000000) = ((v.1 : Rat) / v.2 - u) / 1000000 := by grind
      rw [e]
      exact dm R1
    have x2 : (u : Rat) / (((1 : Int) : Rat) * 1000000) - (v.1 : Rat) / ((v.2 : Rat) * 1000000) ≤ ((h + j.error : Int) : Rat) / 1000000 := by
      have e : (u : Rat) / (((1 : Int) : Rat) * 1000000) - (v.1 : Rat) / ((v.2 : Rat) * 1000000) = (u - (v.1 : Rat) / v.2) / 1000000 := by grind
      rw [e]
      exact dm R2
    have ch := Le.chord j.axis hP hd x1 x2
    have e : ((P.rot j.axis ((v.1 : Rat) / ((v.2 : Rat) * 1000000))).sub (S.rot j.axis ((u : Rat) / (((1 : Int) : Rat) * 1000000)))) =
      ((P.sub S).rot j.axis ((u : Rat) / (((1 : Int) : Rat) * 1000000))).add ((P.rot j.axis ((v.1 : Rat) / ((v.2 : Rat) * 1000000))).sub (P.rot j.axis ((u : Rat) / (((1 : Int) : Rat) * 1000000)))) := by
      rw [← rot_sub]
      unfold Q3.sub Q3.add
      simp only [Q3.mk.injEq]
      refine ⟨?_, ?_, ?_⟩ <;> grind
    rw [e]
    refine ((hPS.rot _ _).add ch).mono ?_
    have g := divUp_ge (2 * l * (h + j.error))
    have e : 2 * (((h + j.error : Int) : Rat) / 1000000) * l = ((2 * l * (h + j.error) : Int) : Rat) / 1000000 := by grind
    rw [e]
    grind
  | false =>
    simp only [Bool.false_eq_true, if_false]
    rw [u1]
    refine ⟨?_, ?_⟩
    · rw [along_sub]
      exact hPS.add (Le.axis R1 (by grind))
    · rw [along_add]
      obtain ⟨m1, m2⟩ := max2_ge (absI j.least) (absI j.most)
      obtain ⟨a1, a2, a3⟩ := absI_ge j.least
      obtain ⟨b1, b2, b3⟩ := absI_ge j.most
      have z1 := castle (show j.most + j.error ≤ max2 (absI j.least) (absI j.most) + j.error by omega)
      have z2 := castle (show -(j.least - j.error) ≤ max2 (absI j.least) (absI j.most) + j.error by omega)
      have z3 : ((-(j.least - j.error) : Int) : Rat) = -((j.least - j.error : Int) : Rat) := by grind
      rw [z3] at z2
      have g : Le ((⟨0, 0, 0⟩ : Q3).along j.axis ((v.1 : Rat) / v.2)) ((max2 (absI j.least) (absI j.most) + j.error : Int) : Rat) := Le.axis (by grind) (by grind)
      refine (hP.add g).mono ?_
      grind
/-- THE BOUND: from the rounded start on -/
theorem bound_go {L : I3 → Int} (hL : ∀ v, 0 ≤ L v ∧ v.sq ≤ L v * L v) {js : List JointD} {hs row : List Int} {vals : List (Int × Int)} {offs : List P4} : ∀ (n : Nat) (P S : Q3) (a l : Int),
    (∀ k, k < n → Within js hs row vals offs k) → Le (P.sub S) ((a - 2 : Int) : Rat) → Le P (l : Rat) →
    Le ((placeQ js (fun k => valQ (js.getD k default) (vals.getD k default)) (fun k => (offs.getD k default).q) n P).sub
      (placeQ js (fun k => valQ (js.getD k default) (row.getD k 0, 1)) (fun k => (js.getD k default).offset.q) n S)) ((unkGo L js hs n a l - 2 : Int) : Rat)
  | 0, P, S, a, l, _, h, _ => h
  | n + 1, P, S, a, l, W, h, hP => by
    have w := W n (Nat.lt_succ_self n)
    obtain ⟨b1, b2⟩ := moved_bound w.pos w.h0 w.err0 w.near1 w.near2 w.lo w.hi h hP
    have ox : (offs.getD n default).q = ⟨((offs.getD n default).x : Rat), ((offs.getD n default).y : Rat), ((offs.getD n default).z : Rat)⟩ := by
      unfold P4.q
      rw [w.ow]
      simp only [Q3.mk.injEq]
      refine ⟨?_, ?_, ?_⟩ <;> grind
    have c1 := castle w.bx1
    have c2 := castle w.bx2
    have c3 := castle w.by1
    have c4 := castle w.by2
    have c5 := castle w.bz1
    have c6 := castle w.bz2
    have hbox : Le ((offs.getD n default).q.sub (js.getD n default).offset.q) (2 * ((js.getD n default).box : Rat)) := by
      rw [ox]
      refine Le.box ?_ ?_ ?_ ?_ ?_ ?_ <;> (unfold Q3.sub I3.q; dsimp only; grind)
    refine bound_go hL n _ _ _ _ (fun k hk => W k (Nat.lt_succ_of_lt hk)) ?_ ?_
    · have e : (((movedQ (js.getD n default) (valQ (js.getD n default) (vals.getD n default)) P).add (offs.getD n default).q).sub ((movedQ (js.getD n default) (valQ (js.getD n default) (row.getD n 0, 1)) S).add (js.getD n default).offset.q)) =
        (((movedQ (js.getD n default) (valQ (js.getD n default) (vals.getD n default)) P).sub (movedQ (js.getD n default) (valQ (js.getD n default) (row.getD n 0, 1)) S))).add ((offs.getD n default).q.sub (js.getD n default).offset.q) := by
        unfold Q3.sub Q3.add
        simp only [Q3.mk.injEq]
        refine ⟨?_, ?_, ?_⟩ <;> grind
      rw [e]
      refine (b1.add hbox).mono ?_
      cases (js.getD n default).turns with
      | true =>
        simp only [if_true]
        grind
      | false =>
        simp only [Bool.false_eq_true, if_false]
        grind
    · have hL1 := Le.int hL (js.getD n default).offset
      have e : (offs.getD n default).q = (js.getD n default).offset.q.add ((offs.getD n default).q.sub (js.getD n default).offset.q) := by
        unfold Q3.sub Q3.add
        cases (offs.getD n default).q
        simp only [Q3.mk.injEq]
        refine ⟨?_, ?_, ?_⟩ <;> grind
      have g := b2.add (hL1.add hbox)
      rw [← e] at g
      refine g.mono ?_
      grind
theorem told_getD {js : List JointD} {k : Nat} (h : k < js.length) : (toldOffs js).getD k default = (js.getD k default).offset.p4 := by
  unfold toldOffs
  simp [List.getD_eq_getElem?_getD, h]
theorem rowVals_getD {row : List Int} {k : Nat} (h : k < row.length) : (rowVals row).getD k default = (row.getD k 0, 1) := by
  unfold rowVals
  simp [List.getD_eq_getElem?_getD, h]
theorem p4_q (v : I3) : v.p4.q = v.q := by
  unfold I3.p4 P4.q I3.q
  simp only [Q3.mk.injEq]
  refine ⟨?_, ?_, ?_⟩ <;> grind
theorem flo_near {p : P4} (hw : 0 < p.w) : Le (p.q.sub (flo p).q) 2 := by
  have vp := castpos hw
  have near : ∀ a : Int, (a : Rat) / p.w - ((a / p.w : Int) : Rat) ≤ 1 ∧ -((a : Rat) / p.w - ((a / p.w : Int) : Rat)) ≤ 1 := fun a => by
    have h1 : a / p.w * p.w ≤ a := by
      have := Int.mul_ediv_self_le (x := a) (k := p.w) (by omega)
      rw [Int.mul_comm]
      exact this
    have h2 : a < (a / p.w + 1) * p.w := Int.lt_ediv_add_one_mul_self a hw
    have c1 := castle h1
    have c2 := castle (Int.le_of_lt h2)
    have d1 : ((a / p.w : Int) : Rat) ≤ (a : Rat) / p.w := le_div_of vp (by grind)
    have d2 : (a : Rat) / p.w ≤ ((a / p.w : Int) : Rat) + 1 := div_le_of vp (by grind)
    constructor <;> grind
  have hx := near p.x
  have hy := near p.y
  have hz := near p.z
  have := Le.box (v := p.q.sub (flo p).q) (b := 1) hx.1 hx.2 hy.1 hy.2 hz.1 hz.2
  refine this.mono ?_
  grind
theorem placeQ_told {js : List JointD} {row : List Int} : ∀ (n : Nat) (p : Q3), n ≤ js.length → n ≤ row.length →
    placeQ js (fun k => valQ (js.getD k default) ((rowVals row).getD k default)) (fun k => ((toldOffs js).getD k default).q) n p = placeQ js (fun k => valQ (js.getD k default) (row.getD k 0, 1)) (fun k => (js.getD k default).offset.q) n p
  | 0, _, _, _ => rfl
  | n + 1, p, h1, h2 => by
    have e1 := told_getD (js := js) (k := n) (by omega)
    have e2 := rowVals_getD (row := row) (k := n) (by omega)
    show placeQ js _ _ n _ = placeQ js _ _ n _
    rw [placeQ_told n _ (by omega) (by omega)]
    dsimp only
    rw [e1, e2, p4_q]
/-- the law's second test -/
theorem bound_ok {L : I3 → Int} (hL : ∀ v, 0 ≤ L v ∧ v.sq ≤ L v * L v) {js : List JointD} {hs row : List Int} {vals : List (Int × Int)} {offs : List P4} {n : Nat} {b : BodyD} {v : I3} (hv : v = b.first ∨ v = b.last)
    (hn1 : n ≤ js.length) (hn2 : n ≤ row.length) (W : ∀ k, k < n → Within js hs row vals offs k) :
    let p := trueM js vals offs n v.p4
    let s := spotM js row n v
    (p.x - s.x * p.w) * (p.x - s.x * p.w) + (p.y - s.y * p.w) * (p.y - s.y * p.w) + (p.z - s.z * p.w) * (p.z - s.z * p.w) ≤ (unkM L js hs n b * p.w) * (unkM L js hs n b * p.w) := by
  intro p s
  obtain ⟨t1, t2⟩ := true_q (js := js) (vals := vals) (offs := offs) n v.p4 (fun k hk => ⟨(W k hk).pos, by rw [(W k hk).ow]; exact Int.zero_lt_one⟩) Int.zero_lt_one
  obtain ⟨s1, s2⟩ := true_q (js := js) (vals := rowVals row) (offs := toldOffs js) n v.p4 (fun k hk => ⟨by rw [rowVals_getD (by omega)]; exact Int.zero_lt_one, by rw [told_getD (by omega)]; exact Int.zero_lt_one⟩) Int.zero_lt_one
  have m1 := max2_ge (L b.first) (L b.last)
  have l0 : Le v.q (max2 (L b.first) (L b.last) : Rat) := by
    rcases hv with e | e
    · rw [e]; exact (Le.int hL b.first).mono (castle m1.1)
    · rw [e]; exact (Le.int hL b.last).mono (castle m1.2)
  have z0 : Le (v.q.sub v.q) (((2 : Int) - 2 : Int) : Rat) := by
    refine ⟨by decide, ?_⟩
    unfold Q3.sub sq
    grind
  have g := bound_go hL n v.q v.q 2 (max2 (L b.first) (L b.last)) W z0 l0
  rw [placeQ_told n _ hn1 hn2, p4_q] at s1
  rw [p4_q] at t1
  rw [← t1, ← s1] at g
  have f := flo_near s2
  have q := g.add f
  have hp : 0 < p.w := t2
  have vp := castpos hp
  have v0 := castne hp
  obtain ⟨q0, q1⟩ := q
  have e : ((trueM js vals offs n v.p4).q.sub (trueM js (rowVals row) (toldOffs js) n v.p4).q).add ((trueM js (rowVals row) (toldOffs js) n v.p4).q.sub (flo (trueM js (rowVals row) (toldOffs js) n v.p4)).q) = p.q.sub s.q := by
    show _ = (trueM js vals offs n v.p4).q.sub (flo (trueM js (rowVals row) (toldOffs js) n v.p4)).q
    unfold Q3.sub Q3.add
    simp only [Q3.mk.injEq]
    refine ⟨?_, ?_, ?_⟩ <;> grind
  rw [e] at q1
  have u : ((unkGo L js hs n 2 (max2 (L b.first) (L b.last)) - 2 : Int) : Rat) + 2 = (unkM L js hs n b : Rat) := by
    unfold unkM
    grind
  rw [u] at q1
  have w2 := Rat.mul_le_mul_of_nonneg_right q1 (sq_nonneg (p.w : Rat))
  apply le_castle
  unfold Q3.sub sq P4.q I3.q at w2
  dsimp only at w2
  have ex : ∀ a b : Int, ((a : Rat) / p.w - b) * ((a : Rat) / p.w - b) * ((p.w : Rat) * p.w) = ((a - b * p.w : Int) : Rat) * ((a - b * p.w : Int) : Rat) := fun a b => by
    have h1 : (a : Rat) / p.w * p.w = a := by grind
    have h2 : ((a - b * p.w : Int) : Rat) = ((a : Rat) / p.w - b) * p.w := by grind
    rw [h2]
    grind
  have x1 := ex p.x s.x
  have x2 := ex p.y s.y
  have x3 := ex p.z s.z
  have x4 : (unkM L js hs n b : Rat) * unkM L js hs n b * ((p.w : Rat) * p.w) = ((unkM L js hs n b * p.w : Int) : Rat) * ((unkM L js hs n b * p.w : Int) : Rat) := by grind
  rw [x4] at w2
  have x5 : ((p.x / p.w - s.x : Rat) * (p.x / p.w - s.x) + (p.y / p.w - s.y) * (p.y / p.w - s.y) + (p.z / p.w - s.z) * (p.z / p.w - s.z)) * ((p.w : Rat) * p.w) =
      ((p.x - s.x * p.w : Int) : Rat) * ((p.x - s.x * p.w : Int) : Rat) + ((p.y - s.y * p.w : Int) : Rat) * ((p.y - s.y * p.w : Int) : Rat) + ((p.z - s.z * p.w : Int) : Rat) * ((p.z - s.z * p.w : Int) : Rat) := by
    rw [← x1, ← x2, ← x3]
    grind
  rw [x5] at w2
  have z1 : (((p.x - s.x * p.w) * (p.x - s.x * p.w) + (p.y - s.y * p.w) * (p.y - s.y * p.w) + (p.z - s.z * p.w) * (p.z - s.z * p.w) : Int) : Rat) =
      ((p.x - s.x * p.w : Int) : Rat) * ((p.x - s.x * p.w : Int) : Rat) + ((p.y - s.y * p.w : Int) : Rat) * ((p.y - s.y * p.w : Int) : Rat) + ((p.z - s.z * p.w : Int) : Rat) * ((p.z - s.z * p.w : Int) : Rat) := by grind
  have z2 : ((unkM L js hs n b * p.w * (unkM L js hs n b * p.w) : Int) : Rat) = ((unkM L js hs n b * p.w : Int) : Rat) * ((unkM L js hs n b * p.w : Int) : Rat) := by grind
  rw [z1, z2]
  exact w2
end K82
/-! The law's own draws: what it makes of its rows, and that it is within what is told. -/
namespace K82
def lawJoint (row error : Int) : JointD :=
  let turns := decide (row % 3 > 0)
  let reach : Int := if turns then 2000000 else 300
  ⟨turns, (row / 3 % 3).toNat, ⟨row / 9 % 41 - 20, row / 369 % 41 - 20, row / 15129 % 201 - 100⟩, -reach, reach, row / 3041 % 3, if turns then error else error % 7⟩
def lawBody (row : Int) : BodyD := ⟨⟨row % 61 - 30, row / 61 % 61 - 30, row / 3721 % 121 - 60⟩, ⟨row / 450241 % 61 - 30, row / 7 % 61 - 30, row / 13 % 121 - 60⟩, row / 11 % 12⟩
def lawLink (row : Int) (links : Nat) : Nat := (row / 97 % ((links : Int) + 1)).toNat
def lawValues (js : List JointD) (row : Int) : List Int := (List.range js.length).map fun k =>
  (js.getD k default).least + (row / ((k : Int) + 1) + row / 1000003 * ((k : Int) + 3)) % ((js.getD k default).most - (js.getD k default).least + 1)
def lawMeant (js : List JointD) (first last : List Int) (over under row : Int) : List (Int × Int) := (List.range js.length).map fun k =>
  ((first.getD k 0 + (row / ((k : Int) + 2) % (2 * (js.getD k default).error + 1) - (js.getD k default).error)) * under + (last.getD k 0 - first.getD k 0) * over, under)
def lawOffs (js : List JointD) (row : Int) : List P4 := (List.range js.length).map fun k =>
  let j := js.getD k default
  let sh := fun i : Int => row / (7 * (k : Int) + i + 1) % (2 * j.box + 1) - j.box
  ⟨j.offset.x + sh 0, j.offset.y + sh 1, j.offset.z + sh 2, 1⟩
def midM (first last : List Int) (depth : Nat) (at_ : Int) : List Int := (List.range first.length).map fun k => first.getD k 0 + (last.getD k 0 - first.getD k 0) * (2 * at_ + 1) / 2 ^ (depth + 1)
def halvesM (first last : List Int) (depth : Nat) : List Int := (List.range first.length).map fun k =>
  if absI (last.getD k 0 - first.getD k 0) > 0 then divUp (absI (last.getD k 0 - first.getD k 0)) (2 ^ (depth + 1)) + 1 else 0
theorem range_getD {α : Type} {f : Nat → α} {n k : Nat} {d : α} (h : k < n) : ((List.range n).map f).getD k d = f k := by
  simp [List.getD_eq_getElem?_getD, h]
/-- what is asked of a joint -/
structure JOk (j : JointD) : Prop where
  ax : j.axis < 3
  box0 : 0 ≤ j.box
  err0 : 0 ≤ j.error
  lm : j.least ≤ j.most
theorem mod_in {a m : Int} (h : 0 < m) : 0 ≤ a % m ∧ a % m < m := ⟨Int.emod_nonneg _ (by omega), Int.emod_lt_of_pos _ h⟩
theorem mul_up {a b c : Int} (h : a ≤ b) (hc : 0 ≤ c) : a * c ≤ b * c := Int.mul_le_mul_of_nonneg_right h hc
/-- the middle and the halves: within a part -/
theorem part_near {f l a u r : Int} {d : Nat} (hu : 1 ≤ u) (hr : 0 ≤ r) (hr2 : r ≤ u) :
    let D := l - f
    let h := if absI D > 0 then divUp (absI D) (2 ^ (d + 1)) + 1 else 0
    let m := f + D * (2 * a + 1) / 2 ^ (d + 1)
    let over := a * u + r
    let under := u * 2 ^ d
    f * under + D * over - m * under ≤ h * under ∧ m * under - (f * under + D * over) ≤ h * under ∧ 0 ≤ h := by
  intro D h m over under
  have hB : (2 : Int) ^ (d + 1) = 2 * 2 ^ d := by rw [Int.pow_succ]; omega
  have hp : (0 : Int) < 2 ^ d := Int.pow_pos (by decide)
  show f * (u * 2 ^ d) + D * (a * u + r) - (f + D * (2 * a + 1) / 2 ^ (d + 1)) * (u * 2 ^ d) ≤ h * (u * 2 ^ d) ∧ (f + D * (2 * a + 1) / 2 ^ (d + 1)) * (u * 2 ^ d) - (f * (u * 2 ^ d) + D * (a * u + r)) ≤ h * (u * 2 ^ d) ∧ 0 ≤ h
  by_cases h0 : D = 0
  · have e : h = 0 := by
      show (if absI D > 0 then divUp (absI D) (2 ^ (d + 1)) + 1 else 0) = 0
      rw [h0]
      rfl
    rw [e, h0]
    have z : (0 : Int) * (2 * a + 1) / 2 ^ (d + 1) = 0 := by rw [Int.zero_mul, Int.zero_ediv]
    rw [z]
    refine ⟨?_, ?_, Int.le_refl 0⟩ <;> grind
  · have ha : 0 < absI D := by
      unfold absI
      split <;> omega
    have e : h = divUp (absI D) (2 ^ (d + 1)) + 1 := if_pos ha
    rw [e]
    generalize hq : D * (2 * a + 1) / 2 ^ (d + 1) = q
    rw [hB] at hq
    generalize (2 : Int) ^ d = b at *
    have q1 : q * (2 * b) ≤ D * (2 * a + 1) := by
      have := Int.mul_ediv_self_le (x := D * (2 * a + 1)) (k := 2 * b) (by omega)
      rw [hq] at this
      rw [Int.mul_comm]
      exact this
    have q2 : D * (2 * a + 1) < (q + 1) * (2 * b) := by
      have := Int.lt_ediv_add_one_mul_self (D * (2 * a + 1)) (show (0 : Int) < 2 * b by omega)
      rw [hq] at this
      exact this
    have g1 : absI D ≤ divUp (absI D) (2 ^ (d + 1)) * (2 * b) := by
      unfold divUp
      rw [hB]
      have := Int.mul_ediv_self_le (x := -(absI D)) (k := 2 * b) (by omega)
      rw [Int.mul_comm] at this
      grind
    generalize divUp (absI D) (2 ^ (d + 1)) = g at *
    have a1 : D ≤ absI D := (absI_ge D).1
    have a2 : -D ≤ absI D := (absI_ge D).2.1
    generalize absI D = A at *
    have g0 : 0 ≤ g := by
      rcases Int.le_total 0 g with z | z
      · exact z
      · have := Int.mul_nonpos_of_nonpos_of_nonneg z (show 0 ≤ 2 * b by omega)
        omega
    have s1 : D * (2 * r - u) ≤ A * u := by
      rcases Int.le_total 0 D with z | z
      · have := Int.mul_le_mul_of_nonneg_left (show 2 * r - u ≤ u by omega) z
        have := Int.mul_le_mul_of_nonneg_right a1 (show 0 ≤ u by omega)
        grind
      · have := Int.mul_le_mul_of_nonneg_left (show -(2 * r - u) ≤ u by omega) (show 0 ≤ -D by omega)
        have := Int.mul_le_mul_of_nonneg_right a2 (show 0 ≤ u by omega)
        grind
    have s2 : -(D * (2 * r - u)) ≤ A * u := by
      rcases Int.le_total 0 D with z | z
      · have := Int.mul_le_mul_of_nonneg_left (show -(2 * r - u) ≤ u by omega) z
        have := Int.mul_le_mul_of_nonneg_right a1 (show 0 ≤ u by omega)
        grind
      · have := Int.mul_le_mul_of_nonneg_left (show (2 * r - u) ≤ u by omega) (show 0 ≤ -D by omega)
        have := Int.mul_le_mul_of_nonneg_right a2 (show 0 ≤ u by omega)
        grind
    have p1 := mul_up q1 (show 0 ≤ u by omega)
    have p2 := mul_up (Int.le_of_lt q2) (show 0 ≤ u by omega)
    have p3 := mul_up g1 (show 0 ≤ u by omega)
    have p4 := Int.mul_nonneg (show 0 ≤ u by omega) (show 0 ≤ b by omega)
    refine ⟨?_, ?_, by omega⟩
    · have : 2 * (f * (u * b) + D * (a * u + r) - (f + q) * (u * b)) ≤ 2 * ((g + 1) * (u * b)) := by grind
      omega
    · have : 2 * ((f + q) * (u * b) - (f * (u * b) + D * (a * u + r))) ≤ 2 * ((g + 1) * (u * b)) := by grind
      omega
theorem lawWithin {js : List JointD} {first last : List Int} {row rowO a u r : Int} {d : Nat} (hJ : ∀ k, k < js.length → JOk (js.getD k default)) (hf : first.length = js.length)
    (hF : ∀ k, k < js.length → (js.getD k default).least ≤ first.getD k 0 ∧ first.getD k 0 ≤ (js.getD k default).most) (hL : ∀ k, k < js.length → (js.getD k default).least ≤ last.getD k 0 ∧ last.getD k 0 ≤ (js.getD k default).most)
    (ha : 0 ≤ a) (ha2 : a < 2 ^ d) (hu : 1 ≤ u) (hr : 0 ≤ r) (hr2 : r ≤ u) : ∀ k, k < js.length →
    Within js (halvesM first last d) (midM first last d a) (lawMeant js first last (a * u + r) (u * 2 ^ d) row) (lawOffs js rowO) k := by
  intro k hk
  have J := hJ k hk
  have hp : (0 : Int) < 2 ^ d := Int.pow_pos (by decide)
  have hU : 0 < u * 2 ^ d := Int.mul_pos (by omega) hp
  have ev : (lawMeant js first last (a * u + r) (u * 2 ^ d) row).getD k default = _ := range_getD hk
  have eo : (lawOffs js rowO).getD k default = _ := range_getD hk
  have em : (midM first last d a).getD k 0 = _ := range_getD (by omega)
  have eh : (halvesM first last d).getD k 0 = _ := range_getD (by omega)
  obtain ⟨n1, n2, n3⟩ := part_near (f := first.getD k 0) (l := last.getD k 0) (a := a) (d := d) hu hr hr2
  obtain ⟨l1, l2⟩ := mod_in (a := row / ((k : Int) + 2)) (m := 2 * (js.getD k default).error + 1) (by have := J.err0; omega)
  obtain ⟨x1, x2⟩ := mod_in (a := rowO / (7 * (k : Int) + 0 + 1)) (m := 2 * (js.getD k default).box + 1) (by have := J.box0; omega)
  obtain ⟨y1, y2⟩ := mod_in (a := rowO / (7 * (k : Int) + 1 + 1)) (m := 2 * (js.getD k default).box + 1) (by have := J.box0; omega)
  obtain ⟨z1, z2⟩ := mod_in (a := rowO / (7 * (k : Int) + 2 + 1)) (m := 2 * (js.getD k default).box + 1) (by have := J.box0; omega)
  obtain ⟨F1, F2⟩ := hF k hk
  obtain ⟨L1, L2⟩ := hL k hk
  have ov0 : 0 ≤ a * u + r := by
    have := Int.mul_nonneg ha (show 0 ≤ u by omega)
    omega
  have ov1 : a * u + r ≤ u * 2 ^ d := by
    have := mul_up (show a + 1 ≤ 2 ^ d by omega) (show 0 ≤ u by omega)
    grind
  generalize u * 2 ^ d = U at *
  generalize a * u + r = O at *
  have mono1 : ∀ c : Int, first.getD k 0 ≤ c → last.getD k 0 ≤ c → first.getD k 0 * U + (last.getD k 0 - first.getD k 0) * O ≤ c * U := fun c c1 c2 => by
    have t1 := mul_up c1 (show 0 ≤ U - O by omega)
    have t2 := mul_up c2 ov0
    grind
  have mono2 : ∀ c : Int, c ≤ first.getD k 0 → c ≤ last.getD k 0 → c * U ≤ first.getD k 0 * U + (last.getD k 0 - first.getD k 0) * O := fun c c1 c2 => by
    have t1 := mul_up c1 (show 0 ≤ U - O by omega)
    have t2 := mul_up c2 ov0
    grind
  have m1 := mono1 _ F2 L2
  have m2 := mono2 _ F1 L1
  have e1 := mul_up (show row / ((k : Int) + 2) % (2 * (js.getD k default).error + 1) - (js.getD k default).error ≤ (js.getD k default).error by omega) (Int.le_of_lt hU)
  have e2 := mul_up (show -(js.getD k default).error ≤ row / ((k : Int) + 2) % (2 * (js.getD k default).error + 1) - (js.getD k default).error by omega) (Int.le_of_lt hU)
  constructor
  · rw [ev]; exact hU
  · rw [eo]
  · exact J.box0
  · exact J.err0
  · rw [eh]; exact n3
  · rw [ev, em, eh]; dsimp only; grind
  · rw [ev, em, eh]; dsimp only; grind
  · rw [ev]; dsimp only; grind
  · rw [ev]; dsimp only; grind
  all_goals (rw [eo]; dsimp only; omega)
end K82
/-! Own rules and words for the walk. -/
namespace K82
open PySem PySem.Spec PyProof.Rows L2 Evl

/-! ### own rules over the library's -/
section
variable {X : Cx}
theorem pe_globI {x : Str} {i : Int} {pos : Pos} (hg : Gl X x) (h : ∃ t, X.mg x = some (.int i t)) (hd : (x == ("__debug__" : Str)) = false := by decide) : PE X (.Name x pos) (tC (.int i)) := by
  obtain ⟨t, h⟩ := h
  exact pe_glob hg h ⟨t, rfl⟩ hd
theorem pe_globS {x : Str} {z : Str} {pos : Pos} (hg : Gl X x) (h : ∃ t, X.mg x = some (.str z t)) (hd : (x == ("__debug__" : Str)) = false := by decide) : PE X (.Name x pos) (tC (.str z)) := by
  obtain ⟨t, h⟩ := h
  exact pe_glob hg h ⟨t, rfl⟩ hd
theorem pe_globR {x : Str} {a : Addr} {pos : Pos} (hg : Gl X x) (h : X.mg x = some (.ref a)) (hd : (x == ("__debug__" : Str)) = false := by decide) : PE X (.Name x pos) (tC (.ref a)) := pe_glob hg h rfl hd
/-- ** of great ints -/
def CPowW (i j : Int) : Prop := 0 ≤ j ∧ (Builtin.Int.intBits i : Int) * j ≤ 2 ^ 27
theorem op_powW : OpR X (binaryOp .Pow) (rI CPowW fun i j => .int (i ^ j.toNat)) := opI fun _ _ _ _ _ _ _ hc q => pow_int hc.1 hc.2 q
/-- a < b < c < d as a test -/
def tChain3 (r r' r'' : R2) (ta tb tc td : TE) : TE := fun σ H Q => ta σ H fun x H1 => tb σ H1 fun y H2 => r x y H2 fun z H3 => ∃ k, z = .bl k ∧
  (if k = true then tc σ H3 (fun w H4 => r' y w H4 fun z' H5 => ∃ k', z' = .bl k' ∧ (if k' = true then td σ H5 (fun u H6 => r'' w u H6 Q) else Q (.bl false) H5)) else Q (.bl false) H3)
theorem pt_chain3 {op op' op'' : CmpOp} {r r' r'' : R2} {a b c d : Expr} {ta tb tc td : TE} {pos : Pos} (ho : OpR X (compareOp op) r) (ho' : OpR X (compareOp op') r') (ho'' : OpR X (compareOp op'') r'') (ha : PE X a ta) (hb : PE X b tb) (hc : PE X c tc) (hd : PE X d td)
    (hm : lastMarks [op, op', op''] [b, c, d] = false := by with_unfolding_all rfl) : PT X (.Compare a [op, op', op''] [b, c, d] pos) (tTest (tChain3 r r' r'' ta tb tc td)) := by
  refine ⟨fun pins s σ H Q I h => ?_⟩
  refine isTrue_chain (thn (ha.run pins s σ H _ I h) fun v s1 ⟨x, H1, I1, r1, q1⟩ => test_link (thn (hb.run pins s1 σ H1 _ I1 q1) fun u s2 ⟨y, H2, I2, r2, q2⟩ =>
    thn (ho pins s2 σ H2 x y v u _ I2 r1 r2 q2) fun d s3 ⟨z, H3, I3, r3, k, e, q3⟩ => ?_)) hm
  subst e
  cases r3
  refine wpAny_truthy_bool ?_
  cases k with
  | false =>
    obtain ⟨k', e', q'⟩ := q3
    cases e'
    exact ite_ff ⟨H3, I3, q'⟩
  | true =>
    refine ite_tt (test_link (thn (hc.run pins s3 σ H3 _ I3 q3) fun w' s4 ⟨w, H4, I4, r4, q4⟩ => thn (ho' pins s4 σ H4 y w u w' _ I4 r2 r4 q4) fun d' s5 ⟨z2, H5, I5, r5, k2, e2, q5⟩ => ?_))
    subst e2
    cases r5
    refine wpAny_truthy_bool ?_
    cases k2 with
    | false =>
      obtain ⟨k', e', q'⟩ := q5
      cases e'
      exact ite_ff ⟨H5, I5, q'⟩
    | true =>
      refine ite_tt (test_last (thn (hd.run pins s5 σ H5 _ I5 q5) fun w2 s6 ⟨w3, H6, I6, r6, q6⟩ => thn (ho'' pins s6 σ H6 w w3 w' w2 _ I6 r4 r6 q6) fun d' s7 ⟨z3, H7, I7, r7, k3, e3, q7⟩ => ?_))
      subst e3
      cases r7
      exact wpAny_truthy_bool ⟨H7, I7, q7⟩
/-- math.isqrt -/
def rIsqrt : List V → Hp → VK → Prop := fun vs H Q => ∃ a : Int, vs = [.int a] ∧ 0 ≤ a ∧ a < 2 ^ 64 ∧ Q (.int ((Float64.isqrt a.toNat : Nat) : Int)) H
theorem cr_isqrt : CallR X (.builtin "math.isqrt") rIsqrt := by
  intro pins s σ H vs us Q I r h
  obtain ⟨a, rfl, h0, h1, q⟩ := h
  cases r with
  | cons r1 r2 =>
    cases r2
    obtain ⟨t, rfl⟩ := r1
    exact PySem.W.mg_isqrt h0 h1 ⟨.int _, H, I.tok _, ⟨_, rfl⟩, q⟩
end
end K82
/-! Evaluations with a word about the value and the heap. -/
namespace K82
open PySem PySem.Spec PyProof.Rows L2 Evl

abbrev VP := V → Hp → Prop
abbrev AP := List V → Hp → Prop
/-- e evaluates to a value of which P holds, what is known stays -/
def EvP (te : TE) (σ : L2.St) (H : Hp) (P : VP) : Prop := ∀ H1, Ex H H1 → ∀ Q : VK, (∀ v H2, Ex H1 H2 → P v H2 → Q v H2) → te σ H1 Q
def EvAP (ta : TA) (σ : L2.St) (H : Hp) (A : AP) : Prop := ∀ H1, Ex H H1 → ∀ Q : List V → Hp → Prop, (∀ vs H2, Ex H1 H2 → A vs H2 → Q vs H2) → ta σ H1 Q
def EvS (ts : TS) (D : Ends) (σ : L2.St) (H : Hp) : Prop := ∀ H1, Ex H H1 → ts D σ H1
def Ret (P : VP) (H : Hp) (Q : VK) : Prop := ∀ v H2, Ex H H2 → P v H2 → Q v H2
def Up (P : VP) : Prop := ∀ v H H', Ex H H' → P v H → P v H'
def UpA (A : AP) : Prop := ∀ vs H H', Ex H H' → A vs H → A vs H'
/-- what may change though known: a list, a Numbers instance -/
def Mut1 (K : PySem.W.Frag) : HO → HO → Prop
  | .lst _, .lst _ => True
  | .ins C dx _, .ins C' dx' _ => C = He.ga K "Numbers" ∧ C' = C ∧ dx' = dx
  | _, _ => False
def Ez (K : PySem.W.Frag) (H H' : Hp) : Prop := ∀ a o, H a = some o → H' a = some o ∨ ∃ o', H' a = some o' ∧ Mut1 K o o'
def UpZ (K : PySem.W.Frag) (P : VP) : Prop := ∀ v H H', Ez K H H' → P v H → P v H'
section
variable {K : PySem.W.Frag} {σ : L2.St} {H H' H2 : Hp}
theorem Mut1.trans {o o' o'' : HO} (h : Mut1 K o o') (k : Mut1 K o' o'') : Mut1 K o o'' := by
  cases o <;> cases o' <;> cases o'' <;> first | exact h.elim | exact k.elim | trivial | skip
  obtain ⟨a, b, c⟩ := h
  obtain ⟨d, e, f⟩ := k
  exact ⟨a, e.trans b, f.trans c⟩
theorem Ex.z (e : Ex H H') : Ez K H H' := fun a o h => .inl (e a o h)
theorem Ez.trans (e : Ez K H H') (f : Ez K H' H2) : Ez K H H2 := fun a o h => by
  rcases e a o h with h1 | ⟨o', h1, m⟩
  · exact f a o h1
  · rcases f a o' h1 with h2 | ⟨o2, h2, m2⟩
    · exact .inr ⟨o', h2, m⟩
    · exact .inr ⟨o2, h2, m.trans m2⟩
theorem Ez.lst {l : Addr} {xs ys : List V} (h : H l = some (.lst xs)) : Ez K H (upd H l (.lst ys)) := fun a o e => by
  by_cases z : a = l
  · subst z
    rw [h] at e
    cases e
    exact .inr ⟨_, upd_same, trivial⟩
  · exact .inl (by rw [upd_ne z]; exact e)
theorem Ez.num {l dx : Addr} {fs gs : List (Str × V)} (h : H l = some (.ins (He.ga K "Numbers") dx fs)) : Ez K H (upd H l (.ins (He.ga K "Numbers") dx gs)) := fun a o e => by
  by_cases z : a = l
  · subst z
    rw [h] at e
    cases e
    exact .inr ⟨_, upd_same, rfl, rfl, rfl⟩
  · exact .inl (by rw [upd_ne z]; exact e)
theorem Ez.tup {a : Addr} {xs : List V} (e : Ez K H H') (h : H a = some (.tup xs)) : H' a = some (.tup xs) := by
  rcases e a _ h with z | ⟨o', z, m⟩
  · exact z
  · exact m.elim
theorem Ez.frz {a : Addr} {o : Obj} {u : HO} (e : Ez K H H') (h : H a = some (.frz o u)) : H' a = some (.frz o u) := by
  rcases e a _ h with z | ⟨o', z, m⟩
  · exact z
  · exact m.elim
theorem Ez.ins {a C dx : Addr} {fs : List (Str × V)} (e : Ez K H H') (h : H a = some (.ins C dx fs)) (hC : C ≠ He.ga K "Numbers") : H' a = some (.ins C dx fs) := by
  rcases e a _ h with z | ⟨o', z, m⟩
  · exact z
  · cases o' with
    | ins C' dx' fs' => exact absurd m.1 hC
    | _ => exact m.elim
theorem Ez.sqt {a : Addr} {xs : List V} (e : Ez K H H') (h : SqT K H a xs) : SqT K H' a xs := by
  rcases h with (h | ⟨o, h⟩) | h
  · exact .inl (.inl (e.tup h))
  · exact .inl (.inr ⟨o, e.frz h⟩)
  · exact .inr h
theorem UpZ.up {P : VP} (h : UpZ K P) : Up P := fun v _ _ e p => h v _ _ (Ex.z e) p

variable {ta tb te tx to : TE} {t u : TT} {x y z v : V} {P P' : VP} {A : AP} {tr : TA} {vs dvs : List V}
theorem EvP.mono (e : Ex H H') (h : EvP te σ H P) : EvP te σ H' P := fun H1 a Q q => h H1 (e.trans a) Q q
theorem EvAP.mono (e : Ex H H') (h : EvAP tr σ H A) : EvAP tr σ H' A := fun H1 a Q q => h H1 (e.trans a) Q q
theorem EvS.mono {ts : TS} {D : Ends} (e : Ex H H') (h : EvS ts D σ H) : EvS ts D σ H' := fun H1 a => h H1 (e.trans a)
theorem EvS.go {ts : TS} {D : Ends} (h : EvS ts D σ H) : ts D σ H := h H (Ex.refl H)
theorem ep_of (h : Ev te σ H v) : EvP te σ H (fun x _ => x = v) := fun H1 e Q q => h H1 e Q fun H2 e2 => q v H2 e2 rfl
theorem ev_of (h : EvP te σ H (fun x _ => x = v)) : Ev te σ H v := fun H1 e Q q => h H1 e Q fun x H2 e2 hx => by
  subst hx
  exact q H2 e2
theorem EvP.weak (h : EvP te σ H P) (i : ∀ v H1, Ex H H1 → P v H1 → P' v H1) : EvP te σ H P' := fun H1 e Q q => h H1 e Q fun v H2 e2 p => q v H2 e2 (i v H2 (e.trans e2) p)
theorem epa_of (h : EvA tr σ H vs) : EvAP tr σ H (fun us _ => us = vs) := fun H1 e Q q => h H1 e Q fun H2 e2 => q vs H2 e2 rfl
theorem epa_nil : EvAP tNil σ H (fun us _ => us = []) := epa_of ea_nil
theorem epa1 (h : Ev ta σ H x) (hr : EvAP tr σ H A) : EvAP (tCons ta tr) σ H (fun us H2 => ∃ r, us = x :: r ∧ A r H2) := fun H1 e Q q =>
  h H1 e _ fun H2 e2 => hr H2 (e.trans e2) _ fun r H3 e3 a => q _ H3 (e2.trans e3) ⟨r, rfl, a⟩
theorem epaP (h : EvP ta σ H P) (hP : Up P) (hr : EvAP tr σ H A) : EvAP (tCons ta tr) σ H (fun us H2 => ∃ x r, us = x :: r ∧ P x H2 ∧ A r H2) := fun H1 e Q q =>
  h H1 e _ fun x H2 e2 p => hr H2 (e.trans e2) _ fun r H3 e3 a => q _ H3 (e2.trans e3) ⟨x, r, rfl, hP x _ _ e3 p, a⟩
/-! calls -/
theorem ep_call {sp : Sp} {E : XK} (h : EvA tr σ H vs) (hs : ∀ H1, Ex H H1 → ∀ Q : VK, Ret P H1 Q → ∀ E, sp (vs ++ dvs) H1 Q E) : EvP (tCall sp dvs E tr) σ H P := fun H1 e Q q =>
  h H1 e _ fun H2 e2 => hs H2 (e.trans e2) Q (fun v H3 e3 p => q v H3 (e2.trans e3) p) E
theorem ep_callA {sp : Sp} {E : XK} (h : EvAP tr σ H A) (hs : ∀ vs H1, Ex H H1 → A vs H1 → ∀ Q : VK, Ret P H1 Q → ∀ E, sp (vs ++ dvs) H1 Q E) : EvP (tCall sp dvs E tr) σ H P := fun H1 e Q q =>
  h H1 e _ fun vs H2 e2 a => hs vs H2 (e.trans e2) a Q (fun v H3 e3 p => q v H3 (e2.trans e3) p) E
theorem ep_meth {sp : Sp} {E : XK} {C dx a : Addr} {m : Str} {fs : List (Str × V)} (ho : Ev to σ H (.ref a)) (hi : H a = some (.ins C dx fs)) (hm : fs.lookup m = none) (h : EvAP tr σ H A)
    (hs : ∀ vs H1, Ex H H1 → A vs H1 → ∀ Q : VK, Ret P H1 Q → ∀ E, sp (.ref a :: (vs ++ dvs)) H1 Q E) : EvP (tMeth C m sp dvs E to tr) σ H P := fun H1 e Q q =>
  ho H1 e _ fun H2 e2 => ⟨a, dx, fs, rfl, e2 a _ (e a _ hi), hm, h H2 (e.trans e2) _ fun vs H3 e3 x => hs vs H3 ((e.trans e2).trans e3) x Q (fun v H4 e4 p => q v H4 ((e2.trans e3).trans e4) p) E⟩
theorem ep_make {sp : Sp} {E : XK} {C : Addr} (h : EvAP tr σ H A)
    (hs : ∀ vs H1, Ex H H1 → A vs H1 → ∀ x dx, H1 x = none → H1 dx = none → dx ≠ x → ∀ Q : VK, (∀ H2, Ex H1 H2 → P (.ref x) H2 → Q .non H2) → ∀ E, sp (.ref x :: (vs ++ dvs)) (upd (upd H1 dx (.own x)) x (.ins C dx [])) Q E) :
    EvP (tMake C sp dvs E tr) σ H P := fun H1 e Q q =>
  h H1 e _ fun vs H2 e2 a x dx nx nd ne => hs vs H2 (e.trans e2) a x dx nx nd ne _ (fun H3 e3 p => ⟨rfl, q _ H3 (e2.trans e3) p⟩) E
theorem ep_cb {r : List V → Hp → VK → Prop} (h : EvAP tr σ H A) (hs : ∀ vs H1, Ex H H1 → A vs H1 → ∀ Q : VK, Ret P H1 Q → r vs H1 Q) : EvP (tCB r tr) σ H P := fun H1 e Q q =>
  h H1 e _ fun vs H2 e2 a => hs vs H2 (e.trans e2) a Q (fun v H3 e3 p => q v H3 (e2.trans e3) p)
/-! displays -/
def TupA (A : AP) : VP := fun v H => ∃ p vs, v = .ref p ∧ H p = some (.tup vs) ∧ A vs H
def LstA (A : AP) : VP := fun v H => ∃ p vs, v = .ref p ∧ H p = some (.lst vs) ∧ A vs H
theorem ep_tup (h : EvAP tr σ H A) (hA : UpA A) (hl : ∀ vs H1, A vs H1 → vs.length ≤ 100000) : EvP (tTup tr) σ H (TupA A) := fun H1 e Q q =>
  h H1 e _ fun vs H2 e2 a => ⟨sz_of (hl vs H2 a), fun p hp => q _ _ (e2.trans (Ex.new hp)) ⟨p, vs, rfl, upd_same, hA _ _ _ (Ex.new hp) a⟩⟩
theorem ep_lst (h : EvAP tr σ H A) (hA : UpA A) (hl : ∀ vs H1, A vs H1 → vs.length ≤ 100000) : EvP (tLst tr) σ H (LstA A) := fun H1 e Q q =>
  h H1 e _ fun vs H2 e2 a => ⟨sz_of (hl vs H2 a), fun p hp => q _ _ (e2.trans (Ex.new hp)) ⟨p, vs, rfl, upd_same, hA _ _ _ (Ex.new hp) a⟩⟩
/-- a new tuple of these -/
def IsT (vs : List V) : VP := fun v H => ∃ p, v = .ref p ∧ H p = some (.tup vs)
def IsL (vs : List V) : VP := fun v H => ∃ p, v = .ref p ∧ H p = some (.lst vs)
/-- a tuple of these, to be read -/
def RdT (K : PySem.W.Frag) (vs : List V) : VP := fun v H => ∃ p, v = .ref p ∧ SqT K H p vs
def RdL (K : PySem.W.Frag) (vs : List V) : VP := fun v H => ∃ p, v = .ref p ∧ SqL K H p vs
theorem IsT.rd (h : IsT vs v H) : RdT K vs v H := let ⟨p, e, h⟩ := h; ⟨p, e, st_of h⟩
theorem IsL.rd (h : IsL vs v H) : RdL K vs v H := let ⟨p, e, h⟩ := h; ⟨p, e, sq_of h⟩
theorem upz_rdT : UpZ K (RdT K vs) := fun _ _ _ e ⟨p, h, q⟩ => ⟨p, h, e.sqt q⟩
theorem up_rdL : Up (RdL K vs) := fun _ _ _ e ⟨p, h, q⟩ => ⟨p, h, ex_l e q⟩
theorem upz_isT : UpZ K (IsT vs) := fun _ _ _ e ⟨p, h, q⟩ => ⟨p, h, e.tup q⟩
theorem up_isL : Up (IsL vs) := fun _ _ _ e ⟨p, h, q⟩ => ⟨p, h, e p _ q⟩
theorem up_isT : Up (IsT vs) := fun _ _ _ e ⟨p, h, q⟩ => ⟨p, h, e p _ q⟩
theorem ep_tupV (h : EvA tr σ H vs) (hl : vs.length ≤ 100000) : EvP (tTup tr) σ H (IsT vs) := fun H1 e Q q =>
  h H1 e _ fun H2 e2 => ⟨sz_of hl, fun p hp => q _ _ (e2.trans (Ex.new hp)) ⟨p, rfl, upd_same⟩⟩
theorem ep_lstV (h : EvA tr σ H vs) (hl : vs.length ≤ 100000) : EvP (tLst tr) σ H (IsL vs) := fun H1 e Q q =>
  h H1 e _ fun H2 e2 => ⟨sz_of hl, fun p hp => q _ _ (e2.trans (Ex.new hp)) ⟨p, rfl, upd_same⟩⟩
/-! operators -/
theorem ep_opA {r : R2} {Pa Pb : VP} (ha : EvP ta σ H Pa) (hua : Up Pa) (hb : EvP tb σ H Pb) (hr : ∀ x y H1, Ex H H1 → Pa x H1 → Pb y H1 → ∀ Q : VK, Ret P H1 Q → r x y H1 Q) : EvP (tOp r ta tb) σ H P := fun H1 e Q q =>
  ha H1 e _ fun x H2 e2 px => hb H2 (e.trans e2) _ fun y H3 e3 py => hr x y H3 ((e.trans e2).trans e3) (hua _ _ _ e3 px) py Q fun v H4 e4 p => q v H4 ((e2.trans e3).trans e4) p
theorem ep_if {b : Bool} (h : EvT t σ H b) (h1 : b = true → EvP ta σ H P) (h2 : b = false → EvP tb σ H P) : EvP (tIf t ta tb) σ H P := fun H1 e Q q => h H1 e _ fun H2 e2 => by
  cases b with
  | true =>
    show ta σ H2 Q
    exact h1 rfl H2 (e.trans e2) Q fun v H3 e3 p => q v H3 (e2.trans e3) p
  | false =>
    show tb σ H2 Q
    exact h2 rfl H2 (e.trans e2) Q fun v H3 e3 p => q v H3 (e2.trans e3) p
theorem ev_fld {a C dx : Addr} {fs : List (Str × V)} {f : Str} (h : Ev ta σ H (.ref a)) (ho : H a = some (.ins C dx fs)) (hc : Cls K C) (hn : NoAttr K C f) (hl : fs.lookup f = some v) : Ev (tFld K ta f) σ H v := fun H1 e Q q =>
  h H1 e _ fun H2 e2 => ⟨a, C, dx, fs, v, rfl, e2 a _ (e a _ ho), hc, hn, hl, q H2 e2⟩
theorem ev_chain {r r' : R2} {tc : TE} {w : V} {k k' : Bool} (ha : Ev ta σ H x) (hb : Ev tb σ H y) (hr : RV r x y H (.bl k)) (hc : k = true → Ev tc σ H w) (hr' : k = true → RV r' y w H (.bl k')) : Ev (tChain r r' ta tb tc) σ H (.bl (k && k')) := fun H1 e Q q =>
  ha H1 e _ fun H2 e2 => hb H2 (e.trans e2) _ fun H3 e3 => hr H3 ((e.trans e2).trans e3) _ fun H4 e4 => ⟨k, rfl, by
    cases k with
    | true =>
      show tc σ H4 fun z H5 => r' y z H5 Q
      exact hc rfl H4 (((e.trans e2).trans e3).trans e4) _ fun H5 e5 => hr' rfl H5 ((((e.trans e2).trans e3).trans e4).trans e5) Q fun H6 e6 => q H6 ((((e2.trans e3).trans e4).trans e5).trans e6)
    | false =>
      show Q (.bl false) H4
      exact q H4 ((e2.trans e3).trans e4)⟩
theorem ev_chain3 {r r' r'' : R2} {tc td : TE} {w w' : V} {k k' k'' : Bool} (ha : Ev ta σ H x) (hb : Ev tb σ H y) (hr : RV r x y H (.bl k)) (hc : k = true → Ev tc σ H w) (hr' : k = true → RV r' y w H (.bl k'))
    (hd : k = true → k' = true → Ev td σ H w') (hr'' : k = true → k' = true → RV r'' w w' H (.bl k'')) : Ev (tChain3 r r' r'' ta tb tc td) σ H (.bl (k && (k' && k''))) := fun H1 e Q q =>
  ha H1 e _ fun H2 e2 => hb H2 (e.trans e2) _ fun H3 e3 => hr H3 ((e.trans e2).trans e3) _ fun H4 e4 => ⟨k, rfl, by
    cases k with
    | true =>
      show tc σ H4 _
      exact hc rfl H4 (((e.trans e2).trans e3).trans e4) _ fun H5 e5 => hr' rfl H5 ((((e.trans e2).trans e3).trans e4).trans e5) _ fun H6 e6 => ⟨k', rfl, by
        cases k' with
        | true =>
          show td σ H6 _
          exact hd rfl rfl H6 (((((e.trans e2).trans e3).trans e4).trans e5).trans e6) _ fun H7 e7 => hr'' rfl rfl H7 ((((((e.trans e2).trans e3).trans e4).trans e5).trans e6).trans e7) Q fun H8 e8 => q H8 ((((((e2.trans e3).trans e4).trans e5).trans e6).trans e7).trans e8)
        | false =>
          show Q (.bl false) H6
          exact q H6 ((((e2.trans e3).trans e4).trans e5).trans e6)⟩
    | false =>
      show Q (.bl false) H4
      exact q H4 ((e2.trans e3).trans e4)⟩
/-! comprehensions: n items, of the i-th P i -/
def LsP (n : Nat) (P : Nat → VP) : VP := fun v H => ∃ p ys, v = .ref p ∧ H p = some (.lst ys) ∧ ys.length = n ∧ ∀ (i : Nat) y, ys[i]? = some y → P i y H
def TpP (n : Nat) (P : Nat → VP) : VP := fun v H => ∃ p ys, v = .ref p ∧ H p = some (.tup ys) ∧ ys.length = n ∧ ∀ (i : Nat) y, ys[i]? = some y → P i y H
theorem up_lsP {n : Nat} {Q : Nat → VP} (h : ∀ i, Up (Q i)) : Up (LsP n Q) := fun v _ _ e ⟨p, ys, a, b, c, d⟩ => ⟨p, ys, a, e p _ b, c, fun i y q => h i y _ _ e (d i y q)⟩
theorem upz_tpP {n : Nat} {Q : Nat → VP} (h : ∀ i, UpZ K (Q i)) : UpZ K (TpP n Q) := fun v _ _ e ⟨p, ys, a, b, c, d⟩ => ⟨p, ys, a, e.tup b, c, fun i y q => h i y _ _ e (d i y q)⟩
def LcW (H1 : Hp) (D : Addr) (Pi : Nat → VP) (i : Nat) (H' : Hp) : Prop := H1 D = none ∧ Ex H1 H' ∧ ∃ ys, H' D = some (.lst ys) ∧ ys.length = i ∧ ∀ (j : Nat) y, ys[j]? = some y → Pi j y H'
theorem lcw_turn {H H1 : Hp} {D : Addr} {Pi : Nat → VP} {i : Nat} {σ2 : L2.St} (w : LcW H1 D Pi i H') (e : Ex H H1) (hi : i < 50000) (he : EvP te σ2 H (Pi i)) (hP : ∀ i, UpZ K (Pi i)) :
    te σ2 H' fun y H4 => ∃ acc, H4 D = some (.lst acc) ∧ acc.length < sizeLine ∧ LcW H1 D Pi (i + 1) (upd H4 D (.lst (acc ++ [y]))) := by
  obtain ⟨hD, e1, ys, hys, hl, ha⟩ := w
  refine he H' (e.trans e1) _ fun y H4 e4 hy => ?_
  have hD4 := e4 D _ hys
  refine ⟨ys, hD4, sz_lt (by omega), hD, Ex.mut (e1.trans e4) hD, ys ++ [y], upd_same, by simp [hl], fun j z hz => ?_⟩
  have ez : Ez K H4 (upd H4 D (.lst (ys ++ [y]))) := Ez.lst hD4
  rcases Nat.lt_or_ge j ys.length with q | q
  · rw [List.getElem?_append_left q] at hz
    exact hP j z _ _ ez (hP j z _ _ (Ex.z e4) (ha j z hz))
  · rw [List.getElem?_append_right q] at hz
    have : j = i := by
      rcases Nat.lt_or_ge (j - ys.length) 1 with r | r
      · omega
      · rw [List.getElem?_eq_none (by simpa using r)] at hz
        cases hz
    subst this
    rw [hl, Nat.sub_self] at hz
    have : y = z := Option.some.inj hz
    subst this
    exact hP _ _ _ _ ez hy
theorem ep_lcT {a : Addr} {xs : List V} {tl : TE} {vs : List Nat} {g : TG} {Pi : Nat → VP} (h : Ev tl σ H (.ref a)) (hx : SqT K H a xs) (hz : xs.length ≤ 40000) (hP : ∀ i, UpZ K (Pi i)) (σ2 : Nat → V → L2.St)
    (hg : ∀ (i : Nat) x H1 (R : L2.St → Hp → Prop), xs[i]? = some x → Ex H H1 → R (σ2 i x) H1 → g x (wipe σ vs) H1 R) (hw : ∀ (i : Nat) x, xs[i]? = some x → wipe (σ2 i x) vs = wipe σ vs)
    (he : ∀ (i : Nat) x, xs[i]? = some x → EvP te (σ2 i x) H (Pi i)) : EvP (tLc (iTup K tl) g tYes te vs) σ H (LsP xs.length Pi) := fun H0 e Q q => h H0 e _ fun H1 e1 => ⟨a, rfl, ⟨xs, ex_t (e.trans e1) hx⟩, fun D hD =>
  lc_tup (xs := xs) (LcW H1 D Pi) ⟨hD, Ex.new hD, [], upd_same, rfl, fun j y z => by simp at z⟩ (fun i H' _ p => ex_t ((e.trans e1).trans p.2.1) hx)
    (fun i x H' hi p => hg i x H' _ hi ((e.trans e1).trans p.2.1) ⟨hw i x hi, lcw_turn p (e.trans e1) (by have := (List.getElem?_eq_some_iff.mp hi).1; omega) (he i x hi) hP⟩)
    (fun H' p => by
      obtain ⟨p1, p2, ys, p3, p4, p5⟩ := p
      exact q _ H' (e1.trans p2) ⟨D, ys, rfl, p3, p4, p5⟩)⟩
theorem ep_lcL {a : Addr} {xs : List V} {tl : TE} {vs : List Nat} {g : TG} {Pi : Nat → VP} (h : Ev tl σ H (.ref a)) (hx : SqL K H a xs) (hz : xs.length ≤ 40000) (hP : ∀ i, UpZ K (Pi i)) (σ2 : Nat → V → L2.St)
    (hg : ∀ (i : Nat) x H1 (R : L2.St → Hp → Prop), xs[i]? = some x → Ex H H1 → R (σ2 i x) H1 → g x (wipe σ vs) H1 R) (hw : ∀ (i : Nat) x, xs[i]? = some x → wipe (σ2 i x) vs = wipe σ vs)
    (he : ∀ (i : Nat) x, xs[i]? = some x → EvP te (σ2 i x) H (Pi i)) : EvP (tLc (iList K tl) g tYes te vs) σ H (LsP xs.length Pi) := fun H0 e Q q => h H0 e _ fun H1 e1 => ⟨a, rfl, ⟨xs, ex_l (e.trans e1) hx⟩, fun D hD =>
  lc_list (xs := xs) (LcW H1 D Pi) ⟨hD, Ex.new hD, [], upd_same, rfl, fun j y z => by simp at z⟩ (fun i H' _ p => ex_l ((e.trans e1).trans p.2.1) hx)
    (fun i x H' hi p => hg i x H' _ hi ((e.trans e1).trans p.2.1) ⟨hw i x hi, lcw_turn p (e.trans e1) (by have := (List.getElem?_eq_some_iff.mp hi).1; omega) (he i x hi) hP⟩)
    (fun H' p => by
      obtain ⟨p1, p2, ys, p3, p4, p5⟩ := p
      exact q _ H' (e1.trans p2) ⟨D, ys, rfl, p3, p4, p5⟩)⟩
/-- over a list that is made on the way: B what is known of it -/
theorem ep_lcB {B : List V → Hp → Prop} {n : Nat} {tl : TE} {vs : List Nat} {g : TG} {Pi : Nat → VP} (h : EvP tl σ H (LstA fun xs H1 => xs.length = n ∧ B xs H1)) (hB : UpA B) (hz : n ≤ 40000) (hP : ∀ i, UpZ K (Pi i)) (σ2 : Nat → V → L2.St)
    (hg : ∀ xs H1, Ex H H1 → B xs H1 → ∀ (i : Nat) x (R : L2.St → Hp → Prop), xs[i]? = some x → R (σ2 i x) H1 → g x (wipe σ vs) H1 R) (hw : ∀ (i : Nat) x, i < n → wipe (σ2 i x) vs = wipe σ vs)
    (he : ∀ xs H1, Ex H H1 → B xs H1 → ∀ (i : Nat) x, xs[i]? = some x → EvP te (σ2 i x) H1 (Pi i)) : EvP (tLc (iList K tl) g tYes te vs) σ H (LsP n Pi) := fun H0 e Q q => h H0 e _ fun v H1 e1 hv => by
  obtain ⟨a, xs, rfl, hx, hn, b⟩ := hv
  subst hn
  exact ⟨a, rfl, ⟨xs, sq_of hx⟩, fun D hD =>
    lc_list (xs := xs) (LcW H1 D Pi) ⟨hD, Ex.new hD, [], upd_same, rfl, fun j y z => by simp at z⟩ (fun i H' _ p => sq_of (p.2.1 a _ hx))
      (fun i x H' hi p => hg xs H' ((e.trans e1).trans p.2.1) (hB _ _ _ p.2.1 b) i x _ hi ⟨hw i x (List.getElem?_eq_some_iff.mp hi).1, lcw_turn p (Ex.refl H1) (by have := (List.getElem?_eq_some_iff.mp hi).1; omega) (he xs H1 (e.trans e1) b i x hi) hP⟩)
      (fun H' p => by
        obtain ⟨p1, p2, ys, p3, p4, p5⟩ := p
        exact q _ H' (e1.trans p2) ⟨D, ys, rfl, p3, p4, p5⟩)⟩
theorem ep_lcR {n : Int} {ta : TA} {vs : List Nat} {g : TG} {Pi : Nat → VP} (h : EvA ta σ H [.int n]) (hn : 0 ≤ n ∧ n ≤ 40000) (hP : ∀ i, UpZ K (Pi i)) (σ2 : Nat → L2.St)
    (hg : ∀ (i : Nat) H1 (R : L2.St → Hp → Prop), R (σ2 i) H1 → g (.int (i : Int)) (wipe σ vs) H1 R) (hw : ∀ (i : Nat), wipe (σ2 i) vs = wipe σ vs)
    (he : ∀ (i : Nat), i < n.toNat → EvP te (σ2 i) H (Pi i)) : EvP (tLc (iRng1 ta) g tYes te vs) σ H (LsP n.toNat Pi) := fun H0 e Q q => h H0 e _ fun H1 e1 => ⟨n, rfl, by omega, by omega, fun D hD =>
  lc_range (lo := 0) (n := n.toNat) (LcW H1 D Pi) ⟨hD, Ex.new hD, [], upd_same, rfl, fun j y z => by simp at z⟩
    (fun i H' hi p => by
      have e0 : (0 : Int) + (i : Int) = (i : Int) := Int.zero_add _
      rw [e0]
      exact hg i H' _ ⟨hw i, lcw_turn p (e.trans e1) (by omega) (he i hi) hP⟩)
    (fun H' p => by
      obtain ⟨p1, p2, ys, p3, p4, p5⟩ := p
      exact q _ H' (e1.trans p2) ⟨D, ys, rfl, p3, p4, p5⟩)⟩
theorem ls_eq {ys : List V} {n : Nat} {f : Nat → V} (hl : ys.length = n) (h : ∀ (i : Nat) y, ys[i]? = some y → y = f i) : ys = (List.range n).map f := by
  apply List.ext_getElem?
  intro i
  rcases Nat.lt_or_ge i n with q | q
  · have hy : ys[i]? = some ys[i] := List.getElem?_eq_getElem (by omega)
    rw [hy, h i _ hy]
    simp [q]
  · rw [List.getElem?_eq_none (by omega), List.getElem?_eq_none (by simp; omega)]
theorem upz_val {f : V} : UpZ K (fun x _ => x = f) := fun _ _ _ _ h => h
/-- items that are plain values -/
theorem LsP.vals {n : Nat} {f : Nat → V} (h : LsP n (fun i x _ => x = f i) v H) : IsL ((List.range n).map f) v H := by
  obtain ⟨p, ys, a, b, c, d⟩ := h
  rw [ls_eq c d] at b
  exact ⟨p, a, b⟩
theorem TpP.vals {n : Nat} {f : Nat → V} (h : TpP n (fun i x _ => x = f i) v H) : IsT ((List.range n).map f) v H := by
  obtain ⟨p, ys, a, b, c, d⟩ := h
  rw [ls_eq c d] at b
  exact ⟨p, a, b⟩
/-- tuple(a list | a tuple) -/
def rTupOf (K : PySem.W.Frag) : List V → Hp → VK → Prop := fun xs H Q => ∃ p ys, xs = [.ref p] ∧ ((SqL K H p ys ∧ ∀ l, H l = none → Q (.ref l) (upd H l (.tup ys))) ∨ (SqT K H p ys ∧ Q (.ref p) H))
theorem call_tupOf {X : Cx} : CallR X (.type "tuple") (rTupOf X.K) := call_tuple_of
theorem ep_tupOfL (h : EvP te σ H (LstA A)) (hA : UpA A) : EvP (tCB (rTupOf K) (tCons te tNil)) σ H (TupA A) := fun H1 e Q q =>
  h H1 e _ fun v H2 e2 hv => by
    obtain ⟨p, vs, rfl, hp, a⟩ := hv
    exact ⟨p, vs, rfl, .inl ⟨sq_of hp, fun l hl => q _ _ (e2.trans (Ex.new hl)) ⟨l, vs, rfl, upd_same, hA _ _ _ (Ex.new hl) a⟩⟩⟩
theorem ep_tupOf {n : Nat} {Q : Nat → VP} (h : EvP te σ H (LsP n Q)) (hQ : ∀ i, Up (Q i)) : EvP (tCB (rTupOf K) (tCons te tNil)) σ H (TpP n Q) := fun H1 e R q =>
  h H1 e _ fun v H2 e2 hv => by
    obtain ⟨p, vs, rfl, hp, hl, a⟩ := hv
    exact ⟨p, vs, rfl, .inl ⟨sq_of hp, fun l hl' => q _ _ (e2.trans (Ex.new hl')) ⟨l, vs, rfl, upd_same, hl, fun i y z => hQ i y _ _ (Ex.new hl') (a i y z)⟩⟩⟩
theorem ep_tupOfR {vs : List V} (h : EvP te σ H (RdL K vs)) : EvP (tCB (rTupOf K) (tCons te tNil)) σ H (IsT vs) := fun H1 e R q =>
  h H1 e _ fun v H2 e2 hv => by
    obtain ⟨p, rfl, hp⟩ := hv
    exact ⟨p, vs, rfl, .inl ⟨hp, fun l hl' => q _ _ (e2.trans (Ex.new hl')) ⟨l, rfl, upd_same⟩⟩⟩
/-- a tuple is itself -/
theorem ev_tupOfT {vs : List V} {a : Addr} (h : Ev te σ H (.ref a)) (ht : SqT K H a vs) : Ev (tCB (rTupOf K) (tCons te tNil)) σ H (.ref a) := fun H1 e R q =>
  h H1 e _ fun H2 e2 => ⟨a, vs, rfl, .inr ⟨ex_t (e.trans e2) ht, q H2 e2⟩⟩
/-! statements -/
variable {D : Ends} {tu tw tz : TS} {g : TG}
theorem z_asg {i : Nat} (h : Ev te σ H v) (k : EvS tz D (σ.set i (some v)) H) : EvS (tSeq (tAsg te (gName i)) tz) D σ H := fun H1 e => h H1 e _ fun H2 e2 => k H2 (e.trans e2)
theorem z_asgP {i : Nat} (h : EvP te σ H P) (k : ∀ v H1, Ex H H1 → P v H1 → EvS tz D (σ.set i (some v)) H1) : EvS (tSeq (tAsg te (gName i)) tz) D σ H := fun H1 e => h H1 e _ fun v H2 e2 p => k v H2 (e.trans e2) p H2 (Ex.refl H2)
theorem z_skip (h : EvT t σ H false) (k : EvS tz D σ H) : EvS (tSeq (tIfS t tu tNext) tz) D σ H := fun H1 e => h H1 e _ fun H2 e2 => k H2 (e.trans e2)
theorem z_iff {b : Bool} (h : EvT t σ H b) (h1 : b = true → EvS tu { D with nx := tz D } σ H) (h2 : b = false → EvS tw { D with nx := tz D } σ H) : EvS (tSeq (tIfS t tu tw) tz) D σ H := fun H1 e => h H1 e _ fun H2 e2 => by
  cases b with
  | true => exact h1 rfl H2 (e.trans e2)
  | false => exact h2 rfl H2 (e.trans e2)
theorem z_if1 {b : Bool} (h : EvT t σ H b) (h1 : b = true → EvS tu D σ H) (h2 : b = false → EvS tw D σ H) : EvS (tIfS t tu tw) D σ H := fun H1 e => h H1 e _ fun H2 e2 => by
  cases b with
  | true => exact h1 rfl H2 (e.trans e2)
  | false => exact h2 rfl H2 (e.trans e2)
theorem z_ifret {b : Bool} (h : EvT t σ H b) (h1 : b = true → EvS tu { D with nx := tz D } σ H) (h2 : b = false → EvS tz D σ H) : EvS (tSeq (tIfS t tu tNext) tz) D σ H := fun H1 e => h H1 e _ fun H2 e2 => by
  cases b with
  | true => exact h1 rfl H2 (e.trans e2)
  | false => exact h2 rfl H2 (e.trans e2)
theorem z_ret (h : EvP te σ H P) (k : Ret P H D.rt) : EvS (tRet te) D σ H := fun H1 e => h H1 e _ fun v H2 e2 p => k v H2 (e.trans e2) p
theorem z_retV (h : Ev te σ H v) (k : ∀ H1, Ex H H1 → D.rt v H1) : EvS (tRet te) D σ H := fun H1 e => h H1 e _ fun H2 e2 => k H2 (e.trans e2)
theorem Ret.mono {Q : VK} (e : Ex H H') (k : Ret P H Q) : Ret P H' Q := fun v H2 e2 p => k v H2 (e.trans e2) p
theorem Ret.weak {Q : VK} (k : Ret P H Q) (i : ∀ v H1, Ex H H1 → P' v H1 → P v H1) : Ret P' H Q := fun v H2 e2 p => k v H2 e2 (i v H2 e2 p)
theorem z_unpack2 {i j : Nat} {a : Addr} {x y : V} (h : Ev te σ H (.ref a)) (ht : SqT K H a [x, y]) (k : EvS tz D ((σ.set i (some x)).set j (some y)) H) : EvS (tSeq (tAsg te (gTup K 2 (gCons (gName i) (gCons (gName j) gNil)))) tz) D σ H := fun H1 e =>
  h H1 e _ fun H2 e2 => ⟨a, [x, y], rfl, ex_t (e.trans e2) ht, rfl, x, [y], rfl, y, [], rfl, rfl, k H2 (e.trans e2)⟩
end
end K82
/-! Values of operations and of built-ins. -/
namespace K82
open PySem PySem.Spec PyProof.Rows L2 Evl


/-! readings by name -/
def rAbs : List V → Hp → VK → Prop := fun xs H Q => ∃ i, xs = [.int i] ∧ Q (.int (absI i)) H
def rMaxB : List V → Hp → VK → Prop := fun xs H Q => ∃ i j, xs = [.int i, .int j] ∧ Q (.int (max2 i j)) H
def rMaxC : List V → Hp → VK → Prop := fun xs H Q => ∃ i j k, xs = [.int i, .int j, .int k] ∧ Q (.int (max2 (max2 i j) k)) H
def rInt1 : List V → Hp → VK → Prop := fun xs H Q => (∃ i, xs = [.int i] ∧ Q (.int i) H) ∨ ∃ k : Bool, xs = [.bl k] ∧ Q (.int (if k then 1 else 0)) H
def rIntS : List V → Hp → VK → Prop := fun xs H Q => ∃ a n, xs = [.str a] ∧ PySem.intText? a = some n ∧ a.length ≤ 640 ∧ Q (.int n) H
def rStr1 : List V → Hp → VK → Prop := fun xs H Q => ∃ i : Int, xs = [.int i] ∧ i.natAbs.log2 < 1920 ∧ Q (.str (toString i)) H
def rLenZ : List V → Hp → VK → Prop := fun xs H Q => ∃ z : Str, xs = [.str z] ∧ z.length ≤ sizeLine ∧ Q (.int z.length) H
def rAddS2 : R2 := fun x y H Q => ∃ i j : Str, x = .str i ∧ y = .str j ∧ i.length + j.length ≤ sizeLine ∧ Q (.str (i ++ j)) H
def rNotInDT (K : PySem.W.Frag) : R2 := fun x y H Q => ∃ d ds, Dp K H x d ∧ Dp K H y (.tuple ds) ∧ SeqAt.shaped d = true ∧ SeqAt.shaped (.tuple ds) = true ∧ Q (.bl (!ds.any fun z => PyData.eqv z d)) H
section
variable {X : Cx}
theorem k_abs : CallR X (.builtin "abs") rAbs := call_abs
theorem k_max2 (hc : X.calm = true) : CallR X (.builtin "max") rMaxB := call_max2 hc
theorem nuMax2_int (i j : Int) : nuMax2 (.int i) (.int j) = some (.int (max2 i j)) := by
  unfold nuMax2 nuLt max2
  show (some (decide (i < j))).map (fun c => if c = true then V.int j else V.int i) = _
  by_cases h : i < j
  · rw [decide_eq_true h, if_pos h] <;> rfl
  · rw [decide_eq_false h, if_neg h] <;> rfl
theorem k_max3 (hc : X.calm = true) : CallR X (.builtin "max") rMaxC := by
  intro pins s σ H vs us Q I r h
  obtain ⟨i, j, k, rfl, q⟩ := h
  refine call_max3Nu hc pins s σ H _ us Q I r ⟨.int i, .int j, .int k, .int (max2 (max2 i j) k), rfl, ?_, q⟩
  unfold nuMax3
  rw [nuMax2_int]
  exact nuMax2_int _ _
theorem k_int1 : CallR X (.type "int") rInt1 := call_int1
theorem k_intS : CallR X (.type "int") rIntS := call_int_str
theorem k_str : CallR X (.type "str") rStr1 := call_str_int
theorem k_len : CallR X (.builtin "len") (rLenS X.K) := call_len_seq
theorem k_lenZ : CallR X (.builtin "len") rLenZ := call_len_str
theorem k_addS : OpR X (binaryOp .Add) rAddS2 := op_add_str
theorem op_notInDT (hu : X.A.units + 65 < cLine) : OpR X (compareOp .NotIn) (rNotInDT X.K) := by
  intro pins s σ H x y v u Q I rx ry h
  obtain ⟨d, ds, hd, he, sd, se, q⟩ := h
  obtain ⟨as, r1⟩ := Dp.reads I d x v hd rx
  obtain ⟨bs, r2⟩ := Dp.reads I (.tuple ds) y u he ry
  exact SeqAt.notIn_tuple_reads r2 r1 (SeqAt.canLay_of_shaped se) (SeqAt.canLay_of_shaped sd) (room_in_shaped sd hu) ⟨.bl _, H, I, rfl, q⟩
end
section
variable {K : PySem.W.Frag} {σ : L2.St} {H : Hp} {i j : Int} {ta tb te : TE} {t u : TT} {x y z v : V}
theorem rv_add : RV (rI0 fun i j => .int (i + j)) (.int i) (.int j) H (.int (i + j)) := rv_I0
theorem rv_sub : RV (rI0 fun i j => .int (i - j)) (.int i) (.int j) H (.int (i - j)) := rv_I0
theorem rv_mul (h : CMul i j) : RV (rI CMul fun i j => .int (i * j)) (.int i) (.int j) H (.int (i * j)) := rv_I h
theorem rv_mulW (h : CMulW i j) : RV (rI CMulW fun i j => .int (i * j)) (.int i) (.int j) H (.int (i * j)) := rv_I h
theorem rv_fdiv (h : CDiv i j) : RV (rI CDiv fun i j => .int (i / j)) (.int i) (.int j) H (.int (i / j)) := rv_I h
theorem rv_fdivW (h : CDivW i j) : RV (rI CDivW fun i j => .int (i / j)) (.int i) (.int j) H (.int (i / j)) := rv_I h
theorem rv_mod (h : 0 < j) : RV (rI (fun _ j => 0 < j) fun i j => .int (i % j)) (.int i) (.int j) H (.int (i % j)) := rv_I h
theorem rv_pow (h : CPowW i j) : RV (rI CPowW fun i j => .int (i ^ j.toNat)) (.int i) (.int j) H (.int (i ^ j.toNat)) := rv_I h
theorem rv_shl (h : CPow i j) : RV (rI CPow fun i j => .int (i * 2 ^ j.toNat)) (.int i) (.int j) H (.int (i * 2 ^ j.toNat)) := rv_I h
theorem rv_shr (h : 0 ≤ j) : RV (rI (fun _ j => 0 ≤ j) fun i j => .int (i / 2 ^ j.toNat)) (.int i) (.int j) H (.int (i / 2 ^ j.toNat)) := rv_I h
theorem rv_lt : RV (rI0 fun i j => .bl (decide (i < j))) (.int i) (.int j) H (.bl (decide (i < j))) := rv_I0
theorem rv_le : RV (rI0 fun i j => .bl (decide (i ≤ j))) (.int i) (.int j) H (.bl (decide (i ≤ j))) := rv_I0
theorem rv_gt : RV (rI0 fun i j => .bl (decide (j < i))) (.int i) (.int j) H (.bl (decide (j < i))) := rv_I0
theorem rv_ge : RV (rI0 fun i j => .bl (decide (j ≤ i))) (.int i) (.int j) H (.bl (decide (j ≤ i))) := rv_I0
theorem dec_int (i j : Int) : decide (V.int i = V.int j) = decide (i = j) := by
  by_cases h : i = j
  · rw [h, decide_eq_true rfl, decide_eq_true rfl]
  · rw [decide_eq_false h, decide_eq_false (fun e => h (V.int.inj e))]
theorem dec_str (i j : Str) : decide (V.str i = V.str j) = decide (i = j) := by
  by_cases h : i = j
  · rw [h, decide_eq_true rfl, decide_eq_true rfl]
  · rw [decide_eq_false h, decide_eq_false (fun e => h (V.str.inj e))]
theorem rv_eqI : RV rEq (.int i) (.int j) H (.bl (decide (i = j))) := by
  rw [← dec_int]
  exact rv_eq rfl
theorem rv_neI : RV rNe (.int i) (.int j) H (.bl (!decide (i = j))) := by
  rw [← dec_int]
  exact rv_ne rfl
theorem rv_eqS {a b : Str} : RV rEq (.str a) (.str b) H (.bl (decide (a = b))) := by
  rw [← dec_str]
  exact rv_eq rfl
theorem rv_neS {a b : Str} : RV rNe (.str a) (.str b) H (.bl (!decide (a = b))) := by
  rw [← dec_str]
  exact rv_ne rfl
theorem rv_addS {a b : Str} (h : a.length + b.length ≤ sizeLine) : RV rAddS2 (.str a) (.str b) H (.str (a ++ b)) := fun H1 _ _ q => ⟨a, b, rfl, rfl, h, q H1 (Ex.refl H1)⟩
theorem rc_abs : RC rAbs [.int i] H (.int (absI i)) := fun H1 _ _ q => ⟨i, rfl, q H1 (Ex.refl H1)⟩
theorem rc_max2 : RC rMaxB [.int i, .int j] H (.int (max2 i j)) := fun H1 _ _ q => ⟨i, j, rfl, q H1 (Ex.refl H1)⟩
theorem rc_max3 {k : Int} : RC rMaxC [.int i, .int j, .int k] H (.int (max2 (max2 i j) k)) := fun H1 _ _ q => ⟨i, j, k, rfl, q H1 (Ex.refl H1)⟩
theorem rc_int : RC rInt1 [.int i] H (.int i) := fun H1 _ _ q => .inl ⟨i, rfl, q H1 (Ex.refl H1)⟩
theorem rc_intB {b : Bool} : RC rInt1 [.bl b] H (.int (if b then 1 else 0)) := fun H1 _ _ q => .inr ⟨b, rfl, q H1 (Ex.refl H1)⟩
theorem rc_intS {a : Str} {n : Int} (h : PySem.intText? a = some n) (hl : a.length ≤ 640) : RC rIntS [.str a] H (.int n) := fun H1 _ _ q => ⟨a, n, rfl, h, hl, q H1 (Ex.refl H1)⟩
theorem rc_str (h : i.natAbs.log2 < 1920) : RC rStr1 [.int i] H (.str (toString i)) := fun H1 _ _ q => ⟨i, rfl, h, q H1 (Ex.refl H1)⟩
theorem rc_lenL {p : Addr} {xs : List V} (h : SqL K H p xs) : RC (rLenS K) [.ref p] H (.int xs.length) := fun H1 e _ q => ⟨p, xs, rfl, .inl (ex_l e h), q H1 (Ex.refl H1)⟩
theorem rc_lenT {p : Addr} {xs : List V} (h : SqT K H p xs) : RC (rLenS K) [.ref p] H (.int xs.length) := fun H1 e _ q => ⟨p, xs, rfl, .inr (ex_t e h), q H1 (Ex.refl H1)⟩
theorem rc_lenZ {z : Str} (h : z.length ≤ sizeLine) : RC rLenZ [.str z] H (.int z.length) := fun H1 _ _ q => ⟨z, rfl, h, q H1 (Ex.refl H1)⟩
theorem rc_tupT {p : Addr} {xs : List V} (h : SqT K H p xs) : RC (rTupOf K) [.ref p] H (.ref p) := fun H1 e _ q => ⟨p, xs, rfl, .inr ⟨ex_t e h, q H1 (Ex.refl H1)⟩⟩
theorem rc_gcd {a b : Int} : RC rGcd [.int a, .int b] H (.int ((Nat.gcd a.natAbs b.natAbs : Nat) : Int)) := fun H1 _ _ q => ⟨a, b, rfl, q H1 (Ex.refl H1)⟩
theorem rc_isqrt {a : Int} (h0 : 0 ≤ a) (h1 : a < 2 ^ 64) : RC rIsqrt [.int a] H (.int ((Float64.isqrt a.toNat : Nat) : Int)) := fun H1 _ _ q => ⟨a, rfl, h0, h1, q H1 (Ex.refl H1)⟩
theorem et_val {b : Bool} (h : Ev te σ H (.bl b)) : EvT (tB te) σ H b := et_B h
theorem ev_ifx {b : Bool} (h : EvT t σ H b) (h1 : Ev ta σ H x) (h2 : Ev tb σ H y) : Ev (tIf t ta tb) σ H (if b = true then x else y) := by
  cases b with
  | true => exact ev_if h (fun _ => h1) (fun q => by cases q)
  | false => exact ev_if h (fun q => by cases q) (fun _ => h2)
end
/-! the rules, their readings over K (the same within a comprehension's block) -/
def rJoin (K : PySem.W.Frag) : V → List V → Hp → VK → Prop := fun x xs H Q => ∃ a p, ∃ ys : List Str, x = .str a ∧ xs = [.ref p] ∧ (SqL K H p (ys.map V.str) ∨ SqT K H p (ys.map V.str)) ∧
  (ys.map (·.length)).sum + ys.length * a.length ≤ 16777216 ∧ Q (.str (Txt.join a ys)) H
def rSplit : V → List V → Hp → VK → Prop := fun x xs H Q => ∃ a b, x = .str a ∧ xs = [.str b] ∧ (b.length == 0) = false ∧ a.length + 2 ≤ sizeLine ∧ rNewStrs (Txt.split a b) H Q
def rIdxT (K : PySem.W.Frag) : V → List V → Hp → VK → Prop := fun x xs H Q => ∃ p, ∃ ys : List Str, ∃ z j, x = .ref p ∧ xs = [.str z] ∧ SqT K H p (ys.map V.str) ∧ ys[j]? = some z ∧ (∀ m, m < j → ys[m]? ≠ some z) ∧ Q (.int (j : Nat)) H
section
variable {X : Cx} {K : PySem.W.Frag} {e o a : Expr} {es : List Expr} {f : Str} {pos pos' apos cpos p : Pos} {ta to te tv : TE} {t : TA} {tg l value : Expr} {T : String} {id : String} {name : Str} {r : V → List V → Hp → VK → Prop}
theorem ix_tupK (h : X.K = K := by rfl) : IxR X (rIxT K) := h ▸ ix_tup
theorem ix_listK (h : X.K = K := by rfl) : IxR X (rIxL K) := h ▸ ix_list
theorem k_lenK (h : X.K = K := by rfl) : CallR X (.builtin "len") (rLenS K) := h ▸ k_len
theorem k_tupK (h : X.K = K := by rfl) : CallR X (.type "tuple") (rTupOf K) := h ▸ call_tupOf
theorem k_allK (hc : X.calm = true) (h : X.K = K := by rfl) : CallR X (.builtin "all") (rAll K) := h ▸ cr_all hc
theorem op_notInK (h : X.K = K := by rfl) : OpR X (compareOp .NotIn) (rIn K true) := h ▸ op_notIn_seq
theorem op_eqDK (hu : X.A.units + 64 < cLine) (h : X.K = K := by rfl) : OpR X (compareOp .Eq) (rEqD K) := h ▸ op_eqD hu
theorem op_neDK (hu : X.A.units + 64 < cLine) (h : X.K = K := by rfl) : OpR X (compareOp .NotEq) (rNeD K) := h ▸ op_neD hu
theorem op_notInDK (hu : X.A.units + 65 < cLine) (h : X.K = K := by rfl) : OpR X (compareOp .NotIn) (rNotInDT K) := h ▸ op_notInDT hu
theorem pe_fldK (he : PE X e ta) (hb : attributeBase e f X.env (eval e X.env) = eval e X.env) (h : X.K = K := by rfl) : PE X (.Attribute e f pos) (tFld K ta f) := by
  subst h
  exact pe_fld he hb
theorem pi_listK (hl : PE X l ta) (h : X.K = K := by rfl) : PI X tg l (iList K ta) := by
  subst h
  exact pi_list hl
theorem pi_tupK (hl : PE X l ta) (h : X.K = K := by rfl) : PI X tg l (iTup K ta) := by
  subst h
  exact pi_tup hl
theorem pg_tupK {k : Nat} {u : TGs} {n : Nat} (hc : X.calm = true) (h : PGs X es u) (hn : (assignEach es X.env).length = n := by rfl) (hst : (assignEach es X.env).findIdx? (·.1) = none := by rfl) (hK : X.K = K := by rfl) : PG X (.Tuple es k pos) (gTup K n u) := by
  subst hK
  exact pg_tup hc h hn hst
theorem pg_unlK {k : Nat} {u : TGs} {n : Nat} (hc : X.calm = true) (h : PGs X es u) (hn : (assignEach es X.env).length = n := by rfl) (hst : (assignEach es X.env).findIdx? (·.1) = none := by rfl) (hK : X.K = K := by rfl) : PG X (.Tuple es k pos) (gUnl K n u) := by
  subst hK
  exact pg_unl hc h hn hst
theorem ps_fldK (ha : PE X o ta) (hv : PE X value tv) (hs : swapsWith value (some (.Attribute o f pos')) pos.line X.env = pure false) (h : X.K = K := by rfl) : PS X (.Assign [.Attribute o f pos'] value pos) (sFld K ta tv f) := by
  subst h
  exact ps_fld ha hv hs
theorem pa_starK (he : PE X e te) (hr : PA X es t) (hs : starEach (.Starred e p :: es) X.env = (true, eval e X.env) :: starEach es X.env := by rfl) (h : X.K = K := by rfl) : PA X (.Starred e p :: es) (StX.tStar K te t) := by
  subst h
  exact StX.pa_star he hr hs
theorem pe_bmK (pa : PlainAttrs T) (slot : Slot T name id) (hty : typeOf (.builtin id) = pure (.type "method_descriptor")) (hm : MtR X id r) (ho : PE X o to) (ha : PA X (e :: es) t)
    (hbase : attributeBase o name X.env (eval o X.env) = eval o X.env := by rfl)
    (hfew : ((backTo cpos (starEach (e :: es) X.env)).all (fun x => !x.1) && (backToKw cpos (keywordEach [] X.env)).all (fun x => x.1.isSome)
      && decide ((e :: es).length + ([] : List Keyword).length + (if ([] : List Keyword).isEmpty then 0 else 1) < 30)) = true := by rfl)
    (hline : (apos.endLine == cpos.line) = true := by rfl) (hs : starEach (e :: es) X.env = (false, eval e X.env) :: starEach es X.env := by rfl) (hplain : (backTo cpos (starEach es X.env)).any (·.1) = false := by rfl) (h : X.K = K := by rfl) :
    PE X (.Call (.Attribute o name apos) (e :: es) [] cpos) (tBM K T r to t) := by
  subst h
  exact pe_bm pa slot hty hm ho ha hbase hfew hline hs hplain
theorem pe_bm0K (pa : PlainAttrs T) (slot : Slot T name id) (hty : typeOf (.builtin id) = pure (.type "method_descriptor")) (hm : MtR X id r) (ho : PE X o to)
    (hbase : attributeBase o name X.env (eval o X.env) = eval o X.env := by rfl) (hline : (apos.endLine == cpos.line) = true := by rfl) (h : X.K = K := by rfl) : PE X (.Call (.Attribute o name apos) [] [] cpos) (tBM0 K T r to) := by
  subst h
  exact pe_bm0 pa slot hty hm ho hbase hline
theorem mt_idxT (h : X.K = K := by rfl) : MtR X "tuple.index" (rIdxT K) := h ▸ mt_tup_index
theorem pe_joinK (ho : PE X o to) (he : PE X e te) (hs : starEach [e] X.env = [(false, eval e X.env)] := by rfl) (hbase : attributeBase o "join" X.env (eval o X.env) = eval o X.env := by rfl) (hline : (apos.endLine == pos.line) = true := by rfl) (h : X.K = K := by rfl) :
    PE X (.Call (.Attribute o "join" apos) [e] [] pos) (tM1 (rJoin K) to te) := by
  subst h
  exact pe_join ho he hs hbase hline
theorem pe_splitK (ho : PE X o to) (he : PE X e te) (hs : starEach [e] X.env = [(false, eval e X.env)] := by rfl) (hbase : attributeBase o "split" X.env (eval o X.env) = eval o X.env := by rfl) (hline : (apos.endLine == pos.line) = true := by rfl) :
    PE X (.Call (.Attribute o "split" apos) [e] [] pos) (tM1 rSplit to te) := pe_split ho he hs hbase hline
end
end K82
/-! One list that is being made. -/
namespace K82
open PySem PySem.Spec PyProof.Rows L2 Evl
/-- ts goes through from any heap that holds H and, at l, the list xs -/
def EvM (l : Addr) (xs : List V) (ts : TS) (D : Ends) (σ : L2.St) (H : Hp) : Prop := ∀ H1, Ex H H1 → H1 l = some (.lst xs) → ts D σ H1
section
variable {K : PySem.W.Frag} {σ : L2.St} {H H' : Hp} {ta tb te to : TE} {t u : TT} {x y z v : V} {P P' : VP} {A : AP} {tr : TA} {vs : List V} {D : Ends} {tu tw tz : TS} {g : TG} {l : Addr} {xs : List V}
theorem EvM.mono {ts : TS} (e : Ex H H') (h : EvM l xs ts D σ H) : EvM l xs ts D σ H' := fun H1 a => h H1 (e.trans a)
theorem zm_new {i : Nat} (h : EvA tr σ H vs) (hl : vs.length ≤ 100000) (k : ∀ l, H l = none → EvM l vs tz D (σ.set i (some (.ref l))) H) : EvS (tSeq (tAsg (tLst tr) (gName i)) tz) D σ H := fun H1 e =>
  h H1 e _ fun H2 e2 => ⟨sz_of hl, fun l hn => k l (fresh_back (e.trans e2) hn) _ ((e.trans e2).trans (Ex.new hn)) upd_same⟩
theorem zm_newP {i : Nat} (h : EvP te σ H (IsL xs)) (hf : ∀ H1, Ex H H1 → ∀ Q : VK, (∀ p H2, H1 p = none → Ex H1 H2 → H2 p = some (.lst xs) → Q (.ref p) H2) → te σ H1 Q) (k : ∀ l, H l = none → EvM l xs tz D (σ.set i (some (.ref l))) H) : EvS (tSeq (tAsg te (gName i)) tz) D σ H := fun H1 e =>
  hf H1 e _ fun p H2 hn e2 hp => k p (fresh_back e hn) H2 (e.trans e2) hp
theorem zm_set {j : Nat} {r : TE} (hn : H l = none) (h : ∀ H1, Ex H H1 → H1 l = some (.lst xs) → Ev te σ H1 v) (ho : Ev ta σ H (.ref l)) (hi : Ev tb σ H (.int (j : Int))) (hj : j < xs.length) (k : EvM l (xs.set j v) tz D σ H) :
    EvM l xs (tSeq (tAsg te (gSub ta tb rSetL)) tz) D σ H := fun H1 e hl =>
  h H1 e hl H1 (Ex.refl H1) _ fun H2 e2 => ho H2 (e.trans e2) _ fun H3 e3 => hi H3 ((e.trans e2).trans e3) _ fun H4 e4 =>
    ⟨l, xs, (j : Int), j, rfl, rfl, ((e2.trans e3).trans e4) l _ hl, ixN_nat hj, k _ (Ex.mut (((e.trans e2).trans e3).trans e4) hn) upd_same⟩
theorem zm_setV {j : Nat} (hn : H l = none) (h : Ev te σ H v) (ho : Ev ta σ H (.ref l)) (hi : Ev tb σ H (.int (j : Int))) (hj : j < xs.length) (k : EvM l (xs.set j v) tz D σ H) :
    EvM l xs (tSeq (tAsg te (gSub ta tb rSetL)) tz) D σ H := zm_set (r := te) hn (fun _ e _ => h.mono e) ho hi hj k
theorem zm_asg {i : Nat} (h : Ev te σ H v) (k : EvM l xs tz D (σ.set i (some v)) H) : EvM l xs (tSeq (tAsg te (gName i)) tz) D σ H := fun H1 e hl => h H1 e _ fun H2 e2 => k H2 (e.trans e2) (e2 l _ hl)
theorem zm_app (hn : H l = none) (ho : Ev to σ H (.ref l)) (h : Ev te σ H v) (hz : xs.length < 100000) (k : EvM l (xs ++ [v]) tz D σ H) :
    EvM l xs (tSeq (tDrop (tBM K "list" rAppend to (tCons te tNil))) tz) D σ H := fun H1 e hl => ho H1 e _ fun H2 e2 =>
  ⟨Or.inl ⟨rfl, xs, sq_of (e2 l _ hl)⟩, h H2 (e.trans e2) _ fun H3 e3 => ⟨l, xs, v, rfl, rfl, (e2.trans e3) l _ hl, sz_lt hz, k _ (Ex.mut ((e.trans e2).trans e3) hn) upd_same⟩⟩
theorem sm_app (hn : H l = none) (ho : Ev to σ H (.ref l)) (h : Ev te σ H v) (hz : xs.length < 100000) (k : ∀ H1, Ex H H1 → H1 l = some (.lst (xs ++ [v])) → D.nx σ H1) :
    EvM l xs (tDrop (tBM K "list" rAppend to (tCons te tNil))) D σ H := fun H1 e hl => ho H1 e _ fun H2 e2 =>
  ⟨Or.inl ⟨rfl, xs, sq_of (e2 l _ hl)⟩, h H2 (e.trans e2) _ fun H3 e3 => ⟨l, xs, v, rfl, rfl, (e2.trans e3) l _ hl, sz_lt hz, k _ (Ex.mut ((e.trans e2).trans e3) hn) upd_same⟩⟩
theorem zm_ret (h : Ev te σ H (.ref l)) (k : ∀ H1, Ex H H1 → H1 l = some (.lst xs) → D.rt (.ref l) H1) : EvM l xs (tRet te) D σ H := fun H1 e hl => h H1 e _ fun H2 e2 => k H2 (e.trans e2) (e2 l _ hl)
/-- return row: a list that is returned -/
theorem zm_retL (h : Ev te σ H (.ref l)) (k : Ret (IsL xs) H D.rt) : EvM l xs (tRet te) D σ H := zm_ret h fun H1 e hl => k _ H1 e ⟨l, rfl, hl⟩
/-- return tuple(row) -/
theorem zm_retT (h : Ev te σ H (.ref l)) (k : Ret (IsT xs) H D.rt) : EvM l xs (tRet (tCB (rTupOf K) (tCons te tNil))) D σ H := fun H1 e hl => h H1 e _ fun H2 e2 =>
  ⟨l, xs, rfl, .inl ⟨sq_of (e2 l _ hl), fun p hp => k _ _ ((e.trans e2).trans (Ex.new hp)) ⟨p, rfl, upd_same⟩⟩⟩
/-- for k in range(n): the list grows by a turn -/
theorem zm_for {ta : TA} {j : Nat} {n : Int} (hn : H l = none) (h : EvA ta σ H [.int n]) (h0 : 0 ≤ n ∧ n ≤ 100000) (σs : Nat → L2.St) (ys : Nat → List V) (e0 : σs 0 = σ) (ey : ys 0 = xs)
    (hs : ∀ (i : Nat), (i : Int) < n → ∀ (N : L2.St → Hp → Prop) (B : L2.St → Hp → Prop), (∀ H1, Ex H H1 → H1 l = some (.lst (ys (i + 1))) → N (σs (i + 1)) H1) → EvM l (ys i) tu { D with nx := N, ct := N, bk := B } ((σs i).set j (some (.int (i : Int)))) H)
    (hd : EvM l (ys n.toNat) tz D (σs n.toNat) H) : EvM l xs (tSeq (tFor (iRng1 ta) (gName j) tu) tz) D σ H := fun H1 e hl => by
  subst ey
  subst e0
  refine q_forR1 (h.mono e) h0 (fun i σ' H' => σ' = σs i ∧ Ex H H' ∧ H' l = some (.lst (ys i))) (fun H2 e2 => ⟨rfl, e.trans e2, e2 l _ hl⟩) (fun i σ' H' hi p => ?_) (fun σ' H' p => ?_)
  · obtain ⟨rfl, pe, pl⟩ := p
    exact hs i hi _ _ (fun H2 e2 hl2 => ⟨rfl, e2, hl2⟩) H' pe pl
  · obtain ⟨rfl, pe, pl⟩ := p
    exact hd H' pe pl
/-- [.. for n in ints]: plain values -/
theorem mapint_get {ns : List Int} {i : Nat} {x : V} (h : (ns.map V.int)[i]? = some x) : ∃ n, ns[i]? = some n ∧ x = .int n := by
  rw [List.getElem?_map] at h
  cases e : ns[i]? with
  | none => rw [e] at h; cases h
  | some n => rw [e] at h; exact ⟨n, rfl, (Option.some.inj h).symm⟩
theorem range_map_get {ns : List Int} {f : Int → V} : (List.range (ns.map V.int).length).map (fun i => f (ns.getD i 0)) = ns.map f := by
  apply List.ext_getElem?
  intro i
  rw [List.getElem?_map, List.getElem?_map]
  by_cases h : i < ns.length
  · simp [h, List.getD_eq_getElem?_getD]
  · simp [h]
theorem ep_lcTi {a : Addr} {ns : List Int} {j : Nat} {js : List Nat} (f : Int → V) (h : Ev to σ H (.ref a)) (hx : SqT K H a (ns.map V.int)) (hz : ns.length ≤ 40000) (hw : ∀ x, wipe ((wipe σ js).set j (some x)) js = wipe σ js)
    (he : ∀ n, n ∈ ns → Ev te ((wipe σ js).set j (some (.int n))) H (f n)) : EvP (tLc (iTup K to) (gName j) tYes te js) σ H (IsL (ns.map f)) := by
  have q := ep_lcT (g := gName j) (te := te) (Pi := fun i v _ => v = f (ns.getD i 0)) h hx (by rw [List.length_map]; exact hz) (fun _ => upz_val) (fun _ x => (wipe σ js).set j (some x)) (fun i x H1 R _ _ r => r) (fun i x _ => hw x) (fun i x hi => by
    obtain ⟨n, hn, rfl⟩ := mapint_get hi
    have e : ns.getD i 0 = n := by rw [List.getD_eq_getElem?_getD, hn]; rfl
    rw [e]
    exact ep_of (he n (List.mem_of_getElem? hn)))
  refine q.weak fun v H1 _ p => ?_
  have p2 := p.vals
  rw [range_map_get] at p2
  exact p2
theorem ep_lcLi {a : Addr} {ns : List Int} {j : Nat} {js : List Nat} (f : Int → V) (h : Ev to σ H (.ref a)) (hx : SqL K H a (ns.map V.int)) (hz : ns.length ≤ 40000) (hw : ∀ x, wipe ((wipe σ js).set j (some x)) js = wipe σ js)
    (he : ∀ n, n ∈ ns → Ev te ((wipe σ js).set j (some (.int n))) H (f n)) : EvP (tLc (iList K to) (gName j) tYes te js) σ H (IsL (ns.map f)) := by
  have q := ep_lcL (g := gName j) (te := te) (Pi := fun i v _ => v = f (ns.getD i 0)) h hx (by rw [List.length_map]; exact hz) (fun _ => upz_val) (fun _ x => (wipe σ js).set j (some x)) (fun i x H1 R _ _ r => r) (fun i x _ => hw x) (fun i x hi => by
    obtain ⟨n, hn, rfl⟩ := mapint_get hi
    have e : ns.getD i 0 = n := by rw [List.getD_eq_getElem?_getD, hn]; rfl
    rw [e]
    exact ep_of (he n (List.mem_of_getElem? hn)))
  refine q.weak fun v H1 _ p => ?_
  have p2 := p.vals
  rw [range_map_get] at p2
  exact p2
/-- [.. for k in range(n)]: plain values -/
theorem ep_lcRi {ta : TA} {n : Int} {j : Nat} {js : List Nat} (f : Nat → V) (h : EvA ta σ H [.int n]) (hn : 0 ≤ n ∧ n ≤ 40000) (hw : ∀ x, wipe ((wipe σ js).set j (some x)) js = wipe σ js)
    (he : ∀ i : Nat, (i : Int) < n → Ev te ((wipe σ js).set j (some (.int (i : Int)))) H (f i)) : EvP (tLc (iRng1 ta) (gName j) tYes te js) σ H (IsL ((List.range n.toNat).map f)) :=
  (ep_lcR (K := ([] : PySem.W.Frag)) (Pi := fun i v _ => v = f i) h hn (fun _ => upz_val) (fun i => (wipe σ js).set j (some (.int (i : Int)))) (fun i H1 R r => r) (fun i => hw _) (fun i hi => ep_of (he i (by omega)))).weak fun v H1 _ p => p.vals
theorem ep_lcRp {ta : TA} {n : Int} {j : Nat} {js : List Nat} (Pi : Nat → VP) (hP : ∀ i, UpZ K (Pi i)) (h : EvA ta σ H [.int n]) (hn : 0 ≤ n ∧ n ≤ 40000) (hw : ∀ x, wipe ((wipe σ js).set j (some x)) js = wipe σ js)
    (he : ∀ i : Nat, (i : Int) < n → EvP te ((wipe σ js).set j (some (.int (i : Int)))) H (Pi i)) : EvP (tLc (iRng1 ta) (gName j) tYes te js) σ H (LsP n.toNat Pi) :=
  ep_lcR h hn hP (fun i => (wipe σ js).set j (some (.int (i : Int)))) (fun i H1 R r => r) (fun i => hw _) (fun i hi => he i (by omega))
theorem ep_tupOfI (h : EvP te σ H (IsL vs)) : EvP (tCB (rTupOf K) (tCons te tNil)) σ H (IsT vs) := ep_tupOfR (h.weak fun _ _ _ p => p.rd)
end
section
variable {K : PySem.W.Frag} {σ : L2.St} {H H' : Hp} {ta tb te to : TE} {P P' : VP} {D : Ends} {tu tw tz : TS} {v : V}
theorem z_asgPl {i : Nat} (h : EvP te σ H P) (k : ∀ v H1, Ex H H1 → P v H1 → D.nx (σ.set i (some v)) H1) : EvS (tAsg te (gName i)) D σ H := fun H1 e => h H1 e _ fun v H2 e2 p => k v H2 (e.trans e2) p
theorem z_asgl {i : Nat} (h : Ev te σ H v) (k : ∀ H1, Ex H H1 → D.nx (σ.set i (some v)) H1) : EvS (tAsg te (gName i)) D σ H := fun H1 e => h H1 e _ fun H2 e2 => k H2 (e.trans e2)
/-- for k in range(n - 1, -1, -1) -/
theorem zs_for3 {ta : TA} {j n : Nat} {lo : Int} (h : EvA ta σ H [.int lo, .int (-1), .int (-1)]) (hlo : lo = (n : Int) - 1) (hn : n ≤ 1000) (Pv : Nat → L2.St → Hp → Prop) (h0 : ∀ H1, Ex H H1 → Pv 0 σ H1)
    (hs : ∀ (i : Nat) σ' H', i < n → Pv i σ' H' → ∀ B : L2.St → Hp → Prop, tu { D with nx := Pv (i + 1), ct := Pv (i + 1), bk := B } (σ'.set j (some (.int ((n - 1 - i : Nat) : Int)))) H') (hd : ∀ σ' H', Pv n σ' H' → tz D σ' H') : EvS (tSeq (tFor (iRng3 ta) (gName j) tu) tz) D σ H := fun H1 e =>
  h H1 e _ fun H2 e2 => ⟨lo, -1, -1, n, rfl, by
    have g := RgC.neg (i := lo) (j := -1) (by omega) (by omega) (by omega) (by omega)
    have e3 : (lo - -1).toNat = n := by omega
    rw [e3] at g
    exact g, for_rangeC (lo := lo) (c := -1) (n := n) (D := { D with nx := tz D }) Pv (h0 H2 (e.trans e2)) (fun i σ' H' hi p => by
    have e0 : lo + (i : Int) * -1 = ((n - 1 - i : Nat) : Int) := by omega
    show tu _ (σ'.set j (some (.int (lo + (i : Int) * -1)))) H'
    rw [e0]
    exact hs i σ' H' hi p _) hd⟩
end
/-! sizes in bits -/
def Bz (n : Nat) (i : Int) : Prop := i.natAbs < 2 ^ n
theorem bz_mono {a b : Nat} {i : Int} (h : Bz a i) (hab : a ≤ b) : Bz b i := Nat.lt_of_lt_of_le h (Nat.pow_le_pow_right (by decide) hab)
theorem bz_mul {a b : Nat} {i j : Int} (ha : Bz a i) (hb : Bz b j) : Bz (a + b) (i * j) := wide_lt ha hb
theorem bz_add {a b : Nat} {i j : Int} (ha : Bz a i) (hb : Bz b j) : Bz (max a b + 1) (i + j) := by
  have h1 := bz_mono ha (Nat.le_max_left a b)
  have h2 := bz_mono hb (Nat.le_max_right a b)
  unfold Bz at *
  rw [Nat.pow_succ]
  omega
theorem bz_sub {a b : Nat} {i j : Int} (ha : Bz a i) (hb : Bz b j) : Bz (max a b + 1) (i - j) := by
  have h1 := bz_mono ha (Nat.le_max_left a b)
  have h2 := bz_mono hb (Nat.le_max_right a b)
  unfold Bz at *
  rw [Nat.pow_succ]
  omega
theorem bz_lit {i : Int} (h : i.natAbs < 2 ^ 64) : Bz 64 i := h
theorem cmulW_of {a b : Nat} {i j : Int} (ha : Bz a i) (hb : Bz b j) (h : a + b ≤ 999000) : CMulW i j := wide_mul (bz_mono ha (Nat.le_succ a)) (bz_mono hb (Nat.le_succ b)) (Nat.succ_pos _) (Nat.succ_pos _) (by omega)
theorem cdivW_of {b : Nat} {i j : Int} (h0 : 0 < j) (hb : Bz b j) (h : b ≤ 8000) : CDivW i j := wide_div h0 (bz_mono hb (Nat.le_succ b)) (Nat.succ_pos _) (by omega)
theorem pow_bits {n : Nat} {i : Int} (h : Bz n i) : Builtin.Int.intBits i ≤ n + 1 := by
  unfold Builtin.Int.intBits
  split
  · omega
  · rename_i q
    have h0 : i.natAbs ≠ 0 := by
      intro z
      apply q
      simp only [beq_iff_eq]
      omega
    have := (Nat.log2_lt h0).mpr h
    omega
theorem cpowW_of {n : Nat} {i : Int} (h : Bz n i) (hn : n ≤ 60000000) : CPowW i 2 := by
  have := pow_bits h
  refine ⟨by decide, ?_⟩
  have : (Builtin.Int.intBits i : Int) ≤ 60000001 := by omega
  omega
end K82
/-! One instance that is being made. -/
namespace K82
open PySem PySem.Spec PyProof.Rows L2 Evl
def EvI (x C dx : Addr) (fs : List (Str × V)) (ts : TS) (D : Ends) (σ : L2.St) (H : Hp) : Prop := ∀ H1, Ex H H1 → H1 x = some (.ins C dx fs) → ts D σ H1
def dropX (H : Hp) (x : Addr) : Hp := fun a => if a = x then none else H a
theorem dropX_same {H : Hp} {x : Addr} : dropX H x x = none := if_pos rfl
theorem dropX_ne {H : Hp} {x a : Addr} (h : a ≠ x) : dropX H x a = H a := if_neg h
theorem Ex.drop {H H' : Hp} {x : Addr} (e : Ex H H') (h : H x = none) : Ex H (dropX H' x) := fun a o ha => by
  rw [dropX_ne (ne_of_none ha h)]
  exact e a o ha
theorem ex_drop {H : Hp} {x : Addr} : Ex (dropX H x) H := fun a o ha => by
  unfold dropX at ha
  split at ha
  · cases ha
  · exact ha
theorem putF_snoc {f : Str} {v : V} : ∀ {fs : List (Str × V)}, (fs.all fun q => decide (q.1 ≠ f)) = true → putF f v fs = fs ++ [(f, v)]
  | [], _ => rfl
  | (g, y) :: r, h => by
    rw [List.all_cons, Bool.and_eq_true] at h
    have hg : ¬ g = f := of_decide_eq_true h.1
    show (if g = f then (g, v) :: r else (g, y) :: putF f v r) = _
    rw [if_neg hg, putF_snoc h.2]
    rfl
section
variable {K : PySem.W.Frag} {σ : L2.St} {H H' : Hp} {ta tb te to : TE} {t u : TT} {y z v : V} {P P' : VP} {A : AP} {tr : TA} {vs : List V} {D : Ends} {tu tw tz : TS} {g : TG} {x C dx : Addr} {fs : List (Str × V)} {f : Str}
theorem zi_skip (h : EvT t σ H false) (k : EvI x C dx fs tz D σ H) : EvI x C dx fs (tSeq (tIfS t tu tNext) tz) D σ H := fun H1 e hx => h H1 e _ fun H2 e2 => k H2 (e.trans e2) (e2 x _ hx)
theorem zi_asg {i : Nat} (h : Ev te σ H v) (k : EvI x C dx fs tz D (σ.set i (some v)) H) : EvI x C dx fs (tSeq (tAsg te (gName i)) tz) D σ H := fun H1 e hx => h H1 e _ fun H2 e2 => k H2 (e.trans e2) (e2 x _ hx)
theorem zi_fld (c : Cls K C) (n : NoAttr K C f) (hn : H x = none) (ho : Ev to σ H (.ref x)) (h : Ev te σ H v) (hf : (fs.all fun q => decide (q.1 ≠ f)) = true) (hl : fs.length < 1000) (k : EvI x C dx (fs ++ [(f, v)]) tz D σ H) : EvI x C dx fs (tSeq (sFld K to te f) tz) D σ H := fun H1 e hx =>
  h H1 e _ fun H2 e2 => ho H2 (e.trans e2) _ fun H3 e3 => ⟨x, C, dx, fs, rfl, (e2.trans e3) x _ hx, c, n, hl, by
    rw [putF_snoc hf]
    exact k _ (Ex.mut ((e.trans e2).trans e3) hn) upd_same⟩
theorem zi_fldl (c : Cls K C) (n : NoAttr K C f) (hn : H x = none) (ho : Ev to σ H (.ref x)) (h : Ev te σ H v) (hf : (fs.all fun q => decide (q.1 ≠ f)) = true) (hl : fs.length < 1000) (k : ∀ H1, Ex H H1 → H1 x = some (.ins C dx (fs ++ [(f, v)])) → D.nx σ H1) : EvI x C dx fs (sFld K to te f) D σ H := fun H1 e hx =>
  h H1 e _ fun H2 e2 => ho H2 (e.trans e2) _ fun H3 e3 => ⟨x, C, dx, fs, rfl, (e2.trans e3) x _ hx, c, n, hl, by
    rw [putF_snoc hf]
    exact k _ (Ex.mut ((e.trans e2).trans e3) hn) upd_same⟩
theorem isT_drop {p : Addr} {vs : List V} {H2 : Hp} {ob : HO} (hx : H2 x = some (.ins C dx fs)) (hp : H2 p = some (.tup vs)) : dropX H2 x p = some (.tup vs) := by
  rw [dropX_ne (ne_of hp hx (by intro z; cases z))]
  exact hp
/-- the value is a new tuple -/
theorem zi_fldT (c : Cls K C) (n : NoAttr K C f) (hn : H x = none) (ho : Ev to σ H (.ref x)) (h : EvP te σ H (IsT vs)) (hf : (fs.all fun q => decide (q.1 ≠ f)) = true) (hl : fs.length < 1000)
    (k : ∀ p H0, Ex H H0 → H0 x = none → H0 p = some (.tup vs) → EvI x C dx (fs ++ [(f, .ref p)]) tz D σ H0) : EvI x C dx fs (tSeq (sFld K to te f) tz) D σ H := fun H1 e hx =>
  h H1 e _ fun v H2 e2 hv => by
    obtain ⟨p, rfl, hp⟩ := hv
    exact ho H2 (e.trans e2) _ fun H3 e3 => ⟨x, C, dx, fs, rfl, (e2.trans e3) x _ hx, c, n, hl, by
      rw [putF_snoc hf]
      exact k p (dropX H3 x) (Ex.drop ((e.trans e2).trans e3) hn) dropX_same (isT_drop (ob := .own 0) ((e2.trans e3) x _ hx) (e3 _ _ hp)) _ (Ex.mut ex_drop dropX_same) upd_same⟩
theorem zi_fldTl (c : Cls K C) (n : NoAttr K C f) (hn : H x = none) (ho : Ev to σ H (.ref x)) (h : EvP te σ H (IsT vs)) (hf : (fs.all fun q => decide (q.1 ≠ f)) = true) (hl : fs.length < 1000)
    (k : ∀ p H1, Ex H H1 → H1 p = some (.tup vs) → H1 x = some (.ins C dx (fs ++ [(f, .ref p)])) → D.nx σ H1) : EvI x C dx fs (sFld K to te f) D σ H := fun H1 e hx =>
  h H1 e _ fun v H2 e2 hv => by
    obtain ⟨p, rfl, hp⟩ := hv
    exact ho H2 (e.trans e2) _ fun H3 e3 => ⟨x, C, dx, fs, rfl, (e2.trans e3) x _ hx, c, n, hl, by
      rw [putF_snoc hf]
      exact k p _ (Ex.mut ((e.trans e2).trans e3) hn) (by rw [upd_ne (ne_of (e3 _ _ hp) ((e2.trans e3) x _ hx) (by intro z; cases z))]; exact e3 _ _ hp) upd_same⟩
/-- C(..): the instance is made, then its __init__ -/
theorem made_ex {H1 : Hp} {o : HO} (nx : H1 x = none) (nd : H1 dx = none) : Ex H1 (upd (upd H1 dx (.own x)) x o) := (Ex.new nd).mut nx
/-- __init__'s promise, from its data: what stood (H0), the new instance x -/
def SpI (C : Addr) (args : List V) (Pre : Hp → Prop) (Fin : List (Str × V) → Hp → Prop) : Sp := fun vs H Q _ => ∃ (x dx : Addr) (H0 : Hp), vs = .ref x :: args ∧ Ex H0 H ∧ H0 x = none ∧ H x = some (.ins C dx []) ∧ Pre H0 ∧ ∀ H2 fs, Ex H0 H2 → H2 x = some (.ins C dx fs) → Fin fs H2 → Q .non H2
theorem EvI.go {ts : TS} (h : EvI x C dx fs ts D σ H) (e : Ex H H') (hx : H' x = some (.ins C dx fs)) : ts D σ H' := h H' e hx
/-- in a tuple of these -/
theorem ev_niT {xs : List V} {ta : TE} {w : V} (ha : Ev ta σ H w) (hb : EvA tr σ H xs) (hx : flatV w = true) (hf : xs.all flatV = true) (hl : xs.length ≤ 100000) : Ev (tOp (rIn K true) ta (tTup tr)) σ H (.bl (!inV w xs)) := ev_niU ha (eu_tup hb hl) hx hf
/-- for y in ys: if t: raise .. -/
theorem zi_forSkip {a : Addr} {ys : List V} {tl : TE} {j : Nat} (hn : H x = none) (h : Ev tl σ H (.ref a)) (hx : SqL K H a ys) (h0 : σ.set j none = σ) (ht : ∀ (i : Nat) y, ys[i]? = some y → EvT t (σ.set j (some y)) H false)
    (k : ∀ w, EvI x C dx fs tz D (σ.set j w) H) : EvI x C dx fs (tSeq (tFor (iList K tl) (gName j) (tIfS t tu tNext)) tz) D σ H := fun H1 e hx1 => by
  refine q_forLn (h.mono e) (ex_l e hx) (fun i σ' H' => (∃ w, σ' = σ.set j w) ∧ Ex H H' ∧ H' x = some (.ins C dx fs)) (fun H2 e2 => ⟨⟨none, h0.symm⟩, e.trans e2, e2 x _ hx1⟩) (fun i σ' H' _ p => ex_l p.2.1 hx) (fun i y σ' H' hi p => ?_) (fun σ' H' p => ?_)
  · obtain ⟨⟨w, rfl⟩, pe, px⟩ := p
    rw [List.set_set]
    exact ht i y hi H' pe _ fun H2 e2 => ⟨⟨some y, rfl⟩, pe.trans e2, e2 x _ px⟩
  · obtain ⟨⟨w, rfl⟩, pe, px⟩ := p
    exact k w H' pe px
/-- the items themselves -/
theorem LsP.same {n : Nat} {ys : List V} (hn : n = ys.length) (h : LsP n (fun i v _ => ys[i]? = some v) v H) : IsL ys v H := by
  obtain ⟨p, zs, a, b, c, d⟩ := h
  have : zs = ys := by
    apply List.ext_getElem?
    intro i
    rcases Nat.lt_or_ge i n with q | q
    · have hz : zs[i]? = some zs[i] := List.getElem?_eq_getElem (by omega)
      rw [hz, d i _ hz]
    · rw [List.getElem?_eq_none (by omega), List.getElem?_eq_none (by omega)]
  subst this
  exact ⟨p, a, b⟩
end
end K82
/-! Pairs of ints as data; a list that is made and then grows; a comprehension over what a call hands back. -/
namespace K82
open PySem PySem.Spec PyProof.Rows L2 Evl
/-! ### pairs -/
def pD (q : Int × Int) : PyData := .tuple [.int q.1, .int q.2]
theorem pD_depth (q : Int × Int) : (pD q).depth ≤ 3 := by simp [pD, PyData.depth, PyData.depthAll]
theorem pD_can (q : Int × Int) : (pD q).canLay0 = true := by simp [pD, PyData.canLay0, PyData.canLayAll0]
theorem pD_canAll : ∀ l : List (Int × Int), PyData.canLayAll0 (l.map pD) = true
  | [] => rfl
  | q :: r => by simp [PyData.canLayAll0, pD_can, pD_canAll r]
theorem pD_depthAll : ∀ l : List (Int × Int), PyData.depthAll (l.map pD) ≤ 3
  | [] => by simp [PyData.depthAll]
  | q :: r => by
    have h1 := pD_depth q
    have h2 := pD_depthAll r
    simp only [List.map_cons, PyData.depthAll]
    omega
theorem pD_shaped (q : Int × Int) : SeqAt.shaped (pD q) = true := by
  have h := pD_depth q
  simp [SeqAt.shaped, pD_can]
  omega
theorem pD_shapedT (l : List (Int × Int)) : SeqAt.shaped (.tuple (l.map pD)) = true := by
  have h := pD_depthAll l
  simp [SeqAt.shaped, PyData.canLay0, pD_canAll, PyData.depth]
  omega
theorem pD_shapedL (l : List (Int × Int)) : SeqAt.shaped (.list (l.map pD)) = true := by
  have h := pD_depthAll l
  simp [SeqAt.shaped, PyData.canLay0, pD_canAll, PyData.depth]
  omega
theorem pD_eqv (p q : Int × Int) : PyData.eqv (pD p) (pD q) = decide (p = q) := by
  obtain ⟨a, b⟩ := p
  obtain ⟨c, d⟩ := q
  simp only [pD, PyData.eqv, PyData.eqvAll, Bool.and_true]
  by_cases h1 : a = c <;> by_cases h2 : b = d <;> simp [h1, h2]
theorem pD_any (l : List (Int × Int)) (q : Int × Int) : ((l.map pD).any fun z => PyData.eqv z (pD q)) = decide (q ∈ l) := by
  induction l with
  | nil => simp
  | cons x r ih =>
    simp only [List.map_cons, List.any_cons, ih, pD_eqv, List.mem_cons]
    by_cases h : x = q
    · simp [h]
    · have h' : ¬ q = x := fun e => h e.symm
      simp [h, h']
theorem pD_eqvAll : ∀ l : List (Int × Int), PyData.eqvAll (l.map pD) (l.map pD) = true
  | [] => rfl
  | q :: r => by simp [PyData.eqvAll, pD_eqv, pD_eqvAll r]
theorem pD_refl (l : List (Int × Int)) : PyData.eqv (.list (l.map pD)) (.list (l.map pD)) = true := by
  simp only [PyData.eqv]
  exact pD_eqvAll l
def PairV (K : PySem.W.Frag) (q : Int × Int) : VP := RdT K [.int q.1, .int q.2]
section
variable {K : PySem.W.Frag} {σ : L2.St} {H H' : Hp} {ta tb te to : TE} {t u : TT} {x y z v : V} {P P' : VP} {A : AP} {tr : TA} {vs : List V} {D : Ends} {tu tw tz : TS} {g : TG}
theorem pair_dp {q : Int × Int} (h : PairV K q v H) : Dp K H v (pD q) := by
  obtain ⟨p, rfl, hp⟩ := h
  exact .tup hp (.cons (.int _) (.cons (.int _) .nil))
theorem pairs_dp : ∀ {ys : List V} {l : List (Int × Int)}, ys.length = l.length → (∀ (i : Nat) y, ys[i]? = some y → PairV K (l.getD i default) y H) → DpAll K H ys (l.map pD)
  | [], [], _, _ => .nil
  | [], _ :: _, e, _ => by cases e
  | _ :: _, [], e, _ => by cases e
  | y :: ys, q :: l, e, h => .cons (pair_dp (h 0 y rfl)) (pairs_dp (Nat.succ.inj e) fun i z hz => h (i + 1) z hz)
theorem lcw_turn2 {H1 : Hp} {D : Addr} {Pi : Nat → VP} {i : Nat} {σ2 : L2.St} (w : LcW H1 D Pi i H') (hi : i < 50000) (he : EvP te σ2 H' (Pi i)) (hP : ∀ i, UpZ K (Pi i)) :
    te σ2 H' fun y H4 => ∃ acc, H4 D = some (.lst acc) ∧ acc.length < sizeLine ∧ LcW H1 D Pi (i + 1) (upd H4 D (.lst (acc ++ [y]))) := by
  obtain ⟨hD, e1, ys, hys, hl, ha⟩ := w
  refine he H' (Ex.refl H') _ fun y H4 e4 hy => ?_
  have hD4 := e4 D _ hys
  refine ⟨ys, hD4, sz_lt (by omega), hD, Ex.mut (e1.trans e4) hD, ys ++ [y], upd_same, by simp [hl], fun j z hz => ?_⟩
  have ez : Ez K H4 (upd H4 D (.lst (ys ++ [y]))) := Ez.lst hD4
  rcases Nat.lt_or_ge j ys.length with q | q
  · rw [List.getElem?_append_left q] at hz
    exact hP j z _ _ ez (hP j z _ _ (Ex.z e4) (ha j z hz))
  · rw [List.getElem?_append_right q] at hz
    have : j = i := by
      rcases Nat.lt_or_ge (j - ys.length) 1 with r | r
      · omega
      · rw [List.getElem?_eq_none (by simpa using r)] at hz
        cases hz
    subst this
    rw [hl, Nat.sub_self] at hz
    have : y = z := Option.some.inj hz
    subst this
    exact hP _ _ _ _ ez hy
/-! ### new lists -/
def EvF (te : TE) (σ : L2.St) (H : Hp) (P : VP) : Prop := ∀ H1, Ex H H1 → ∀ Q : VK, (∀ p H2, H1 p = none → Ex H1 H2 → P (.ref p) H2 → Q (.ref p) H2) → te σ H1 Q
theorem EvF.p (h : EvF te σ H P) : EvP te σ H P := fun H1 e Q q => h H1 e Q fun p H2 _ e2 hp => q _ H2 e2 hp
theorem zf_asg {i : Nat} (h : EvF te σ H P) (k : ∀ l H2, H l = none → Ex H H2 → P (.ref l) H2 → tz D (σ.set i (some (.ref l))) H2) : EvS (tSeq (tAsg te (gName i)) tz) D σ H := fun H1 e => h H1 e _ fun p H2 hn e2 hp => k p H2 (fresh_back e hn) (e.trans e2) hp
theorem ef_lcT {a : Addr} {xs : List V} {tl : TE} {vs : List Nat} {g : TG} {Pi : Nat → VP} (h : Ev tl σ H (.ref a)) (hx : SqT K H a xs) (hz : xs.length ≤ 40000) (hP : ∀ i, UpZ K (Pi i)) (σ2 : Nat → V → L2.St)
    (hg : ∀ (i : Nat) x H1 (R : L2.St → Hp → Prop), xs[i]? = some x → Ex H H1 → R (σ2 i x) H1 → g x (wipe σ vs) H1 R) (hw : ∀ (i : Nat) x, xs[i]? = some x → wipe (σ2 i x) vs = wipe σ vs)
    (he : ∀ (i : Nat) x, xs[i]? = some x → EvP te (σ2 i x) H (Pi i)) : EvF (tLc (iTup K tl) g tYes te vs) σ H (LsP xs.length Pi) := fun H0 e Q q => h H0 e _ fun H1 e1 => ⟨a, rfl, ⟨xs, ex_t (e.trans e1) hx⟩, fun D hD =>
  lc_tup (xs := xs) (LcW H1 D Pi) ⟨hD, Ex.new hD, [], upd_same, rfl, fun j y z => by simp at z⟩ (fun i H' _ p => ex_t ((e.trans e1).trans p.2.1) hx)
    (fun i x H' hi p => hg i x H' _ hi ((e.trans e1).trans p.2.1) ⟨hw i x hi, lcw_turn p (e.trans e1) (by have := (List.getElem?_eq_some_iff.mp hi).1; omega) (he i x hi) hP⟩)
    (fun H' p => by
      obtain ⟨p1, p2, ys, p3, p4, p5⟩ := p
      exact q D H' (fresh_back e1 p1) (e1.trans p2) ⟨D, ys, rfl, p3, p4, p5⟩)⟩
/-- over a list that a call hands back; the target may be a pair -/
theorem ep_lcG {B : List V → Hp → Prop} {n : Nat} {tl : TE} {vs : List Nat} {g : TG} {Pi : Nat → VP} (h : EvP tl σ H (LstA fun xs H1 => xs.length = n ∧ B xs H1)) (hB : UpA B) (hz : n ≤ 40000) (hP : ∀ i, UpZ K (Pi i))
    (hg : ∀ xs H1, Ex H H1 → xs.length = n → B xs H1 → ∀ (i : Nat) x (R : L2.St → Hp → Prop), xs[i]? = some x → (∀ σ', wipe σ' vs = wipe σ vs → EvP te σ' H1 (Pi i) → R σ' H1) → g x (wipe σ vs) H1 R) : EvP (tLc (iList K tl) g tYes te vs) σ H (LsP n Pi) := fun H0 e Q q => h H0 e _ fun v H1 e1 hv => by
  obtain ⟨a, xs, rfl, hx, hn, b⟩ := hv
  subst hn
  exact ⟨a, rfl, ⟨xs, sq_of hx⟩, fun D hD =>
    lc_list (xs := xs) (LcW H1 D Pi) ⟨hD, Ex.new hD, [], upd_same, rfl, fun j y z => by simp at z⟩ (fun i H' _ p => sq_of (p.2.1 a _ hx))
      (fun i x H' hi p => hg xs H' ((e.trans e1).trans p.2.1) rfl (hB _ _ _ p.2.1 b) i x _ hi fun σ' hw he => ⟨hw, lcw_turn2 p (by have := (List.getElem?_eq_some_iff.mp hi).1; omega) he hP⟩)
      (fun H' p => by
        obtain ⟨p1, p2, ys, p3, p4, p5⟩ := p
        exact q _ H' (e1.trans p2) ⟨D, ys, rfl, p3, p4, p5⟩)⟩
/-- (a, b) not in a tuple of pairs -/
theorem ev_niD {a b : Int} {p : Addr} {ys : List V} {l : List (Int × Int)} (ha : EvA tr σ H [.int a, .int b]) (hb : Ev tb σ H (.ref p)) (hp : SqT K H p ys) (hl : ys.length = l.length) (hi : ∀ (i : Nat) y, ys[i]? = some y → PairV K (l.getD i default) y H) :
    Ev (tOp (rNotInDT K) (tTup tr) tb) σ H (.bl (!decide ((a, b) ∈ l))) := fun H1 e Q q => ha H1 e _ fun H2 e2 => ⟨by show 2 ≤ sizeLine; decide, fun pt hpt => hb _ ((e.trans e2).trans (Ex.new hpt)) _ fun H3 e3 => by
    have ea := ((e.trans e2).trans (Ex.new (o := .tup [.int a, .int b]) hpt)).trans e3
    refine ⟨pD (a, b), l.map pD, pair_dp ⟨pt, rfl, st_of (e3 _ _ upd_same)⟩, .tup (ex_t ea hp) (pairs_dp hl fun i y z => upz_rdT.up _ _ _ ea (hi i y z)), pD_shaped _, pD_shapedT _, ?_⟩
    rw [pD_any]
    exact q H3 ((e2.trans (Ex.new hpt)).trans e3)⟩
def Items (K : PySem.W.Frag) (zs : List V) (ps : List (Int × Int)) (H : Hp) : Prop := zs.length = ps.length ∧ ∀ (j : Nat) y, zs[j]? = some y → PairV K (ps.getD j default) y H
theorem Items.mz {zs : List V} {ps : List (Int × Int)} (e : Ez K H H') (h : Items K zs ps H) : Items K zs ps H' := ⟨h.1, fun j y q => upz_rdT _ _ _ e (h.2 j y q)⟩
theorem Items.app {zs : List V} {ps : List (Int × Int)} {q : Int × Int} (h : Items K zs ps H) (hy : PairV K q y H) : Items K (zs ++ [y]) (ps ++ [q]) H := by
  obtain ⟨h1, h2⟩ := h
  refine ⟨by simp [h1], fun j z hj => ?_⟩
  rcases Nat.lt_or_ge j zs.length with r | r
  · rw [List.getElem?_append_left r] at hj
    rw [List.getD_eq_getElem?_getD, List.getElem?_append_left (by omega), ← List.getD_eq_getElem?_getD]
    exact h2 j z hj
  · rw [List.getElem?_append_right r] at hj
    have ej : j - zs.length = 0 := by
      rcases Nat.eq_zero_or_pos (j - zs.length) with r | r
      · exact r
      · rw [List.getElem?_eq_none (by simp; omega)] at hj
        cases hj
    rw [ej] at hj
    have : y = z := Option.some.inj hj
    subst this
    rw [List.getD_eq_getElem?_getD, List.getElem?_append_right (by omega), show j - ps.length = 0 by omega]
    exact hy
theorem g_pair {i j : Nat} {p : Addr} {a b : V} {R : L2.St → Hp → Prop} (h : SqT K H p [a, b]) (r : R ((σ.set i (some a)).set j (some b)) H) : gTup K 2 (gCons (gName i) (gCons (gName j) gNil)) (.ref p) σ H R := ⟨p, [a, b], rfl, h, rfl, a, [b], rfl, b, [], rfl, rfl, r⟩
end
section
variable {K : PySem.W.Frag} {σ : L2.St} {H H' : Hp} {ta tb te to tl : TE} {x y v : V} {P P' : VP} {A : AP} {tr : TA} {vs xs ys : List V} {D : Ends} {tu tw tz : TS} {g : TG} {l : Addr}
theorem ea_starT {p : Addr} (h : Ev te σ H (.ref p)) (hs : SqT K H p xs) (hr : EvA tr σ H ys) : EvA (StX.tStar K te tr) σ H (xs ++ ys) := fun H1 e Q q =>
  h H1 e _ fun H2 e2 => ⟨p, xs, rfl, .inl (ex_t (e.trans e2) hs), hr H2 (e.trans e2) _ fun H3 e3 => q H3 (e2.trans e3)⟩
theorem ea_starL {p : Addr} (h : Ev te σ H (.ref p)) (hs : SqL K H p xs) (hr : EvA tr σ H ys) : EvA (StX.tStar K te tr) σ H (xs ++ ys) := fun H1 e Q q =>
  h H1 e _ fun H2 e2 => ⟨p, xs, rfl, .inr (ex_l (e.trans e2) hs), hr H2 (e.trans e2) _ fun H3 e3 => q H3 (e2.trans e3)⟩
theorem ea_starP (h : EvP te σ H (IsL xs)) (hr : EvA tr σ H ys) : EvA (StX.tStar K te tr) σ H (xs ++ ys) := fun H1 e Q q =>
  h H1 e _ fun v H2 e2 hv => by
    obtain ⟨p, rfl, hp⟩ := hv
    exact ⟨p, xs, rfl, .inr (sq_of hp), hr H2 (e.trans e2) _ fun H3 e3 => q H3 (e2.trans e3)⟩
theorem ea_starP1 (h : EvP te σ H (IsL xs)) : EvA (StX.tStar K te tNil) σ H xs := by
  have := ea_starP (K := K) h (ys := []) ea_nil
  rw [List.append_nil] at this
  exact this
theorem zm_ext (hn : H l = none) (ho : Ev to σ H (.ref l)) (h : EvP te σ H (IsL ys)) (hz : xs.length + ys.length ≤ 100000) (k : EvM l (xs ++ ys) tz D σ H) :
    EvM l xs (tSeq (tDrop (tBM K "list" rExtend to (tCons te tNil))) tz) D σ H := fun H1 e hl => ho H1 e _ fun H2 e2 =>
  ⟨Or.inl ⟨rfl, xs, sq_of (e2 l _ hl)⟩, h H2 (e.trans e2) _ fun v H3 e3 hv => by
    obtain ⟨p, rfl, hp⟩ := hv
    exact ⟨l, p, xs, ys, rfl, rfl, (e2.trans e3) l _ hl, hp, sz_of hz, k _ (Ex.mut ((e.trans e2).trans e3) hn) upd_same⟩⟩
theorem sm_ext (hn : H l = none) (ho : Ev to σ H (.ref l)) (h : EvP te σ H (IsL ys)) (hz : xs.length + ys.length ≤ 100000) (k : ∀ H1, Ex H H1 → H1 l = some (.lst (xs ++ ys)) → D.nx σ H1) :
    EvM l xs (tDrop (tBM K "list" rExtend to (tCons te tNil))) D σ H := fun H1 e hl => ho H1 e _ fun H2 e2 =>
  ⟨Or.inl ⟨rfl, xs, sq_of (e2 l _ hl)⟩, h H2 (e.trans e2) _ fun v H3 e3 hv => by
    obtain ⟨p, rfl, hp⟩ := hv
    exact ⟨l, p, xs, ys, rfl, rfl, (e2.trans e3) l _ hl, hp, sz_of hz, k _ (Ex.mut ((e.trans e2).trans e3) hn) upd_same⟩⟩
theorem zm_forT {a : Addr} {j : Nat} (hn : H l = none) (h : Ev tl σ H (.ref a)) (hx : SqT K H a xs) (h0 : σ.set j none = σ) (acc : Nat → List V) (ea : acc 0 = ys)
    (hs : ∀ (i : Nat) y, xs[i]? = some y → ∀ (N B : L2.St → Hp → Prop), (∀ H1, Ex H H1 → H1 l = some (.lst (acc (i + 1))) → N (σ.set j (some y)) H1) → EvM l (acc i) tu { D with nx := N, ct := N, bk := B } (σ.set j (some y)) H)
    (k : ∀ w, EvM l (acc xs.length) tz D (σ.set j w) H) : EvM l ys (tSeq (tFor (iTup K tl) (gName j) tu) tz) D σ H := fun H1 e hl => by
  subst ea
  refine q_forT (h.mono e) (ex_t e hx) (fun i σ' H' => (∃ w, σ' = σ.set j w) ∧ Ex H H' ∧ H' l = some (.lst (acc i))) (fun H2 e2 => ⟨⟨none, h0.symm⟩, e.trans e2, e2 l _ hl⟩) (fun i σ' H' _ p => ex_t p.2.1 hx) (fun i y σ' H' hi p => ?_) (fun σ' H' p => ?_)
  · obtain ⟨⟨w, rfl⟩, pe, pl⟩ := p
    show tu _ ((σ.set j w).set j (some y)) H'
    rw [List.set_set]
    exact hs i y hi _ _ (fun H2 e2 hl2 => ⟨⟨some y, rfl⟩, e2, hl2⟩) H' pe pl
  · obtain ⟨⟨w, rfl⟩, pe, pl⟩ := p
    exact k w H' pe pl
/-- for a, b in pairs -/
theorem zm_forT2 {a : Addr} {j1 j2 : Nat} (hn : H l = none) (h : Ev tl σ H (.ref a)) (hx : SqT K H a xs) (s0 : ∀ u w u' w', (((σ.set j1 u).set j2 w).set j1 u').set j2 w' = (σ.set j1 u').set j2 w') (h0 : (σ.set j1 none).set j2 none = σ) (acc : Nat → List V) (ea : acc 0 = ys)
    (hp : ∀ (i : Nat) y, xs[i]? = some y → ∃ p c d, y = .ref p ∧ SqT K H p [c, d] ∧ ∀ (N B : L2.St → Hp → Prop), (∀ H1, Ex H H1 → H1 l = some (.lst (acc (i + 1))) → N ((σ.set j1 (some c)).set j2 (some d)) H1) → EvM l (acc i) tu { D with nx := N, ct := N, bk := B } ((σ.set j1 (some c)).set j2 (some d)) H)
    (k : ∀ u w, EvM l (acc xs.length) tz D ((σ.set j1 u).set j2 w) H) : EvM l ys (tSeq (tFor (iTup K tl) (gTup K 2 (gCons (gName j1) (gCons (gName j2) gNil))) tu) tz) D σ H := fun H1 e hl => by
  subst ea
  refine q_forT (h.mono e) (ex_t e hx) (fun i σ' H' => (∃ u w, σ' = (σ.set j1 u).set j2 w) ∧ Ex H H' ∧ H' l = some (.lst (acc i))) (fun H2 e2 => ⟨⟨none, none, h0.symm⟩, e.trans e2, e2 l _ hl⟩) (fun i σ' H' _ p => ex_t p.2.1 hx) (fun i y σ' H' hi p => ?_) (fun σ' H' p => ?_)
  · obtain ⟨⟨u, w, rfl⟩, pe, pl⟩ := p
    obtain ⟨pp, c, d, rfl, hq, hb⟩ := hp i y hi
    refine g_pair (ex_t pe hq) ?_
    show tu _ ((((σ.set j1 u).set j2 w).set j1 (some c)).set j2 (some d)) H'
    rw [s0]
    exact hb _ _ (fun H2 e2 hl2 => ⟨⟨some c, some d, rfl⟩, e2, hl2⟩) H' pe pl
  · obtain ⟨⟨u, w, rfl⟩, pe, pl⟩ := p
    exact k u w H' pe pl
/-- a new list from a display that holds a call, to which one adds -/
theorem zm_newA {i : Nat} (h : EvA tr σ H vs) (hl : vs.length ≤ 100000) (k : ∀ l, H l = none → EvM l vs tz D (σ.set i (some (.ref l))) H) : EvS (tSeq (tAsg (tLst tr) (gName i)) tz) D σ H := zm_new h hl k
theorem zm_app1 (hn : H l = none) (ho : Ev to σ H (.ref l)) (h : Ev te σ H v) (hz : xs.length < 100000) (k : EvM l (xs ++ [v]) tz D σ H) : EvM l xs (tSeq (tDrop (tBM K "list" rAppend to (tCons te tNil))) tz) D σ H := zm_app hn ho h hz k
end
/-! the pairs -/
def okP (ls : List Int) (bs : List (Int × Int)) (k j : Nat) : Bool := decide (absI (ls.getD k 0 - ls.getD j 0) > 1) && !decide (((k : Int), (j : Int)) ∈ bs)
def innerP (ls : List Int) (bs : List (Int × Int)) (k : Nat) : Nat → List (Int × Int)
  | 0 => []
  | m + 1 => if okP ls bs k (k + 1 + m) = true then innerP ls bs k m ++ [((k : Int), ((k + 1 + m : Nat) : Int))] else innerP ls bs k m
def outerP (ls : List Int) (bs : List (Int × Int)) : Nat → List (Int × Int)
  | 0 => []
  | k + 1 => outerP ls bs k ++ innerP ls bs k (ls.length - (k + 1))
def pairsM (ls : List Int) (bs : List (Int × Int)) : List (Int × Int) := outerP ls bs ls.length
theorem innerP_len (ls : List Int) (bs : List (Int × Int)) (k : Nat) : ∀ m, (innerP ls bs k m).length ≤ m
  | 0 => Nat.le_refl 0
  | m + 1 => by
    have := innerP_len ls bs k m
    unfold innerP
    split
    · simp; omega
    · omega
theorem outerP_len (ls : List Int) (bs : List (Int × Int)) : ∀ k, (outerP ls bs k).length ≤ k * ls.length
  | 0 => by simp [outerP]
  | k + 1 => by
    have h1 := outerP_len ls bs k
    have h2 := innerP_len ls bs k (ls.length - (k + 1))
    unfold outerP
    rw [List.length_append, Nat.succ_mul]
    omega
end K82
/-! The text of integers, and back. -/
namespace K82
open PySem PySem.Spec PyProof.Rows L2 Evl
/-- str(n) -/
def numS (n : Int) : Str := toString n
def digS (n : Int) : Str := numS (n.natAbs : Int)
theorem numS_pos {n : Int} (h : 0 ≤ n) : numS n = digS n := by
  unfold digS
  rw [Int.natAbs_of_nonneg h]
theorem tl_dig (n : Int) : TL.tl (digS n) = TL.numL n.natAbs := TL.tl_num _
theorem tl_ofApp (x y : String) : TL.tl (Str.ofString (x ++ y)) = TL.tl (Str.ofString x) ++ TL.tl (Str.ofString y) := by
  rw [TL.tl_ofString, TL.tl_ofString, TL.tl_ofString, String.toList_append, List.map_append]
theorem tl_neg {n : Int} (h : n < 0) : TL.tl (numS n) = 45 :: TL.numL n.natAbs := by
  have e : ((0 : Int) - n) = ((n.natAbs : Nat) : Int) := by omega
  show TL.tl (Str.ofString (toString n)) = _
  rw [toString_neg h, tl_ofApp, e, TL.tl_num]
  rfl
theorem numS_free {k : Nat} (hk : k ≠ 45 ∧ (k < 48 ∨ 57 < k)) (n : Int) : k ∉ TL.tl (numS n) := int_text_free' k hk n
theorem tl_numS (n : Int) : TL.tl (numS n) = if n < 0 then 45 :: TL.numL n.natAbs else TL.numL n.natAbs := by
  by_cases h : n < 0
  · rw [if_pos h, tl_neg h]
  · rw [if_neg h, numS_pos (by omega), tl_dig]
theorem dig_len {n : Int} (h : n.natAbs < 10 ^ 20) : (digS n).length ≤ 20 := by
  rw [TL.len_tl, tl_dig]
  exact TL.numL_len (by decide) h
theorem numS_len {n : Int} (h : n.natAbs < 10 ^ 20) : (numS n).length ≤ 21 := by
  have := TL.numL_len (k := 20) (by decide) h
  rw [TL.len_tl, tl_numS]
  split
  · rw [List.length_cons]; omega
  · omega
theorem dig_int {n : Int} (h : n.natAbs < 10 ^ 20) : intText? (digS n) = some (n.natAbs : Int) := by
  have := TL.numL_len (k := 20) (by decide) h
  exact TL.int_num (by omega)
theorem digit_cps {c : Nat} (h : 48 ≤ c ∧ c ≤ 57) : Unicode.isDigit c = true := by
  have : c = 48 ∨ c = 49 ∨ c = 50 ∨ c = 51 ∨ c = 52 ∨ c = 53 ∨ c = 54 ∨ c = 55 ∨ c = 56 ∨ c = 57 := by omega
  rcases this with rfl | rfl | rfl | rfl | rfl | rfl | rfl | rfl | rfl | rfl <;> decide +kernel
theorem dig_isdigit (n : Int) : Txt.isdigit (digS n) = true := by
  unfold Txt.isdigit
  rw [Bool.and_eq_true]
  refine ⟨?_, ?_⟩
  · rw [TL.len_tl, tl_dig]
    have := List.length_pos_iff.mpr (TL.numL_ne n.natAbs)
    simpa using this
  · rw [← Array.all_toList]
    show (TL.tl (digS n)).all _ = true
    rw [tl_dig, List.all_eq_true]
    exact fun c hc => digit_cps (TL.numL_digits _ c hc)
theorem dig_isascii (n : Int) : Txt.isascii (digS n) = true := by
  unfold Txt.isascii
  rw [← Array.all_toList]
  show (TL.tl (digS n)).all _ = true
  rw [tl_dig, List.all_eq_true]
  intro c hc
  have := TL.numL_digits _ c hc
  exact decide_eq_true (by omega)
theorem cut1 {z : Str} {c : Nat} {r : List Nat} (h : TL.tl z = c :: r) : TL.tl (cutS z none (some 1)) = [c] := by
  have hl : z.length = r.length + 1 := by rw [TL.len_tl, h, List.length_cons]
  have e1 : HT.sIx z.length 0 none = 0 := rfl
  have e2 : HT.sIx z.length z.length (some 1) = 1 := by
    unfold HT.sIx
    simp
    omega
  show ((z.cps.toList.drop (HT.sIx z.length 0 none)).take (HT.sIx z.length z.length (some 1) - HT.sIx z.length 0 none)).toArray.toList = _
  rw [e1, e2, show z.cps.toList = c :: r from h] <;> rfl
theorem cutR {z : Str} {c : Nat} {r : List Nat} (h : TL.tl z = c :: r) : TL.tl (cutS z (some 1) none) = r := by
  have hl : z.length = r.length + 1 := by rw [TL.len_tl, h, List.length_cons]
  have e1 : HT.sIx z.length 0 (some 1) = 1 := by
    unfold HT.sIx
    simp
    omega
  have e2 : HT.sIx z.length z.length none = z.length := rfl
  show ((z.cps.toList.drop (HT.sIx z.length 0 (some 1))).take (HT.sIx z.length z.length none - HT.sIx z.length 0 (some 1))).toArray.toList = _
  rw [e1, e2, show z.cps.toList = c :: r from h, hl]
  simp
theorem cut_neg {n : Int} (h : n < 0) : cutS (numS n) none (some 1) = "-" := TL.ext_tl (by rw [cut1 (tl_neg h)]; rfl)
theorem cut_rest {n : Int} (h : n < 0) : cutS (numS n) (some 1) none = digS n := TL.ext_tl (by rw [cutR (tl_neg h), tl_dig])
theorem cut_pos {n : Int} (h : ¬ n < 0) : cutS (numS n) none (some 1) ≠ "-" := by
  intro e
  have e0 := tl_numS n
  rw [if_neg h] at e0
  cases q : TL.numL n.natAbs with
  | nil => exact TL.numL_ne _ q
  | cons c r =>
    rw [q] at e0
    have e1 := cut1 e0
    rw [e] at e1
    have hc := TL.numL_digits n.natAbs c (by rw [q]; exact List.mem_cons_self ..)
    have e2 : ([45] : List Nat) = [c] := e1
    injection e2 with e3
    omega
theorem cut_dec (n : Int) : decide (cutS (numS n) none (some 1) = "-") = decide (n < 0) := by
  by_cases h : n < 0
  · rw [decide_eq_true h, decide_eq_true (cut_neg h)]
  · rw [decide_eq_false h, decide_eq_false (cut_pos h)]
/-! the whole paper -/
def rowS (ns : List Int) : Str := Txt.join " " (ns.map numS)
def textM (hd : Str) (ns : List Int) : Str := hd ++ "\n" ++ rowS ns ++ "\n"
theorem join_len : ∀ (y : Str) (l : List Str), (Str.join y l).length ≤ (l.map (·.length)).sum + l.length * y.length
  | _, [] => Nat.zero_le _
  | y, [x] => by show x.length ≤ _; simp
  | y, x :: z :: r => by
    have ih := join_len y (z :: r)
    show (x ++ y ++ Str.join y (z :: r)).length ≤ _
    have e : (x ++ y ++ Str.join y (z :: r)).length = x.length + y.length + (Str.join y (z :: r)).length := by
      rw [TL.len_tl, TL.tl_append, TL.tl_append, List.length_append, List.length_append, ← TL.len_tl, ← TL.len_tl, ← TL.len_tl]
    rw [e]
    simp only [List.map_cons, List.sum_cons, List.length_cons, Nat.succ_mul] at ih ⊢
    omega
theorem sum_len : ∀ (ns : List Int), (∀ n ∈ ns, n.natAbs < 10 ^ 20) → ((ns.map numS).map (·.length)).sum ≤ ns.length * 21
  | [], _ => Nat.le_refl _
  | n :: r, h => by
    have h1 := numS_len (h n (List.mem_cons_self ..))
    have h2 := sum_len r fun m hm => h m (List.mem_cons_of_mem _ hm)
    simp only [List.map_cons, List.sum_cons, List.length_cons, Nat.succ_mul]
    omega
theorem row_len {ns : List Int} (h : ∀ n ∈ ns, n.natAbs < 10 ^ 20) : (rowS ns).length ≤ ns.length * 22 := by
  have h1 := join_len " " (ns.map numS)
  have h2 := sum_len ns h
  unfold rowS
  rw [TL.join_eq]
  rw [List.length_map] at h1
  have : (" " : Str).length = 1 := by decide +kernel
  rw [this] at h1
  omega
theorem text_join (hd : Str) (ns : List Int) : textM hd ns = Txt.join "\n" [hd, rowS ns, ""] := by
  rw [TL.join_eq]
  refine TL.ext_tl ?_
  unfold textM
  show _ = TL.tl (hd ++ "\n" ++ (rowS ns ++ "\n" ++ ""))
  simp only [TL.tl_append, List.append_assoc]
  rfl
theorem row_free {ns : List Int} : 10 ∉ TL.tl (rowS ns) := by
  unfold rowS
  rw [TL.join_eq]
  induction ns with
  | nil => show 10 ∉ ([] : List Nat); simp
  | cons n r ih =>
    cases r with
    | nil => exact numS_free ⟨by decide, by decide⟩ n
    | cons m r =>
      show 10 ∉ TL.tl (numS n ++ " " ++ Str.join " " ((m :: r).map numS))
      rw [TL.tl_append, TL.tl_append]
      intro q
      rcases List.mem_append.mp q with q | q
      · rcases List.mem_append.mp q with q | q
        · exact numS_free ⟨by decide, by decide⟩ n q
        · have : (10 : Nat) ∈ [32] := q
          simp at this
      · exact ih q
theorem text_split (hd : Str) (hh : 10 ∉ TL.tl hd) (ns : List Int) : Txt.split (textM hd ns) "\n" = [hd, rowS ns, ""] := by
  rw [text_join]
  refine TL.split_join (s := 10) (S := []) rfl (by decide +kernel) (by simp) fun p hp => ?_
  simp only [List.mem_cons, List.not_mem_nil, or_false] at hp
  rcases hp with rfl | rfl | rfl
  · exact hh
  · exact row_free
  · show 10 ∉ ([] : List Nat); simp
theorem row_split {ns : List Int} (h : ns ≠ []) : Txt.split (rowS ns) " " = ns.map numS := by
  unfold rowS
  refine TL.split_join (s := 32) (S := []) rfl (by decide +kernel) (by simpa using h) fun p hp => ?_
  obtain ⟨n, _, rfl⟩ := List.mem_map.mp hp
  exact numS_free ⟨by decide, by decide⟩ n
end K82
/-! A reader of integers that moves on. -/
namespace K82
open PySem PySem.Spec PyProof.Rows L2 Evl
structure NumD where
  p : Addr
  dx : Addr
  rl : Addr
  R : List Int
def fNum (N : NumD) (i : Nat) : List (Str × V) := [("row", .ref N.rl), ("taken", .int (i : Int))]
def NAt (K : PySem.W.Frag) (N : NumD) (i : Nat) (H : Hp) : Prop := H N.p = some (.ins (He.ga K "Numbers") N.dx (fNum N i)) ∧ H N.rl = some (.lst (N.R.map V.int))
/-- all but p stays -/
def ExN (p : Addr) (H H' : Hp) : Prop := ∀ a o, a ≠ p → H a = some o → H' a = some o
def EvN (K : PySem.W.Frag) (N : NumD) (j : Nat) (te : TE) (σ : L2.St) (H : Hp) (P : VP) : Prop := ∀ H1, Ex H H1 → ∀ Q : VK, (∀ v H2, ExN N.p H1 H2 → NAt K N j H2 → P v H2 → Q v H2) → te σ H1 Q
def EvAN (K : PySem.W.Frag) (N : NumD) (j : Nat) (ta : TA) (σ : L2.St) (H : Hp) (A : AP) : Prop := ∀ H1, Ex H H1 → ∀ Q : List V → Hp → Prop, (∀ vs H2, ExN N.p H1 H2 → NAt K N j H2 → A vs H2 → Q vs H2) → ta σ H1 Q
def RetN (K : PySem.W.Frag) (N : NumD) (j : Nat) (P : VP) (H : Hp) (Q : VK) : Prop := ∀ v H2, ExN N.p H H2 → NAt K N j H2 → P v H2 → Q v H2
section
variable {K : PySem.W.Frag} {N : NumD} {i j k : Nat} {σ : L2.St} {H H' H2 : Hp} {ta tb te to : TE} {t u : TT} {x y v : V} {P P' : VP} {A : AP} {tr : TA} {vs : List V} {D : Ends} {tu tw tz : TS} {g : TG} {p : Addr}
theorem ExN.refl : ExN p H H := fun _ _ _ h => h
theorem ExN.trans (e : ExN p H H') (f : ExN p H' H2) : ExN p H H2 := fun a o n h => f a o n (e a o n h)
theorem Ex.n (e : Ex H H') : ExN p H H' := fun a o _ h => e a o h
theorem ExN.ex (e : ExN p H H') (h : H p = none) : Ex H H' := fun a o q => e a o (ne_of_none q h) q
theorem NAt.ex (h : NAt K N i H) (e : Ex H H') : NAt K N i H' := ⟨e _ _ h.1, e _ _ h.2⟩
theorem NAt.ez (h : NAt K N i H) (h' : NAt K N j H') (e : ExN N.p H H') : Ez K H H' := fun a o q => by
  by_cases z : a = N.p
  · subst z
    rw [h.1] at q
    cases q
    exact .inr ⟨_, h'.1, rfl, rfl, rfl⟩
  · exact .inl (e a o z q)
theorem NAt.ne {a : Addr} {xs : List V} (h : NAt K N i H) (q : H a = some (.lst xs)) : a ≠ N.p := ne_of q h.1 (by intro z; cases z)
theorem NAt.lst {a : Addr} {xs : List V} (h : NAt K N i H) (e : ExN N.p H H') (q : H a = some (.lst xs)) : H' a = some (.lst xs) := e _ _ (h.ne q) q
theorem NAt.sqt {a : Addr} {xs : List V} (h : NAt K N i H) (h' : NAt K N j H') (e : ExN N.p H H') (q : SqT K H a xs) : SqT K H' a xs := (h.ez h' e).sqt q
theorem NAt.isL (h : NAt K N i H) (e : ExN N.p H H') (q : IsL vs v H) : IsL vs v H' := let ⟨a, r, q⟩ := q; ⟨a, r, h.lst e q⟩
theorem NAt.lsP {n : Nat} {Pi : Nat → VP} (hP : ∀ i, UpZ K (Pi i)) (h : NAt K N i H) (h' : NAt K N j H') (e : ExN N.p H H') (q : LsP n Pi v H) : LsP n Pi v H' :=
  let ⟨a, ys, r, q1, q2, q3⟩ := q; ⟨a, ys, r, h.lst e q1, q2, fun i y z => hP i y _ _ (h.ez h' e) (q3 i y z)⟩
theorem EvN.mono (e : Ex H H') (h : EvN K N j te σ H P) : EvN K N j te σ H' P := fun H1 a => h H1 (e.trans a)
theorem EvN.weak (h : EvN K N j te σ H P) (hi : ∀ v H1, P v H1 → P' v H1) : EvN K N j te σ H P' := fun H1 e Q q => h H1 e Q fun v H2 e2 n2 p => q v H2 e2 n2 (hi v H2 p)
/-- what takes nothing -/
theorem en_of (hN : NAt K N i H) (h : EvP te σ H P) : EvN K N i te σ H P := fun H1 e Q q => h H1 e Q fun v H2 e2 p => q v H2 (Ex.n e2) ((hN.ex e).ex e2) p
theorem ean_of (hN : NAt K N i H) (h : EvA tr σ H vs) : EvAN K N i tr σ H (fun us _ => us = vs) := fun H1 e Q q => h H1 e Q fun H2 e2 => q _ H2 (Ex.n e2) ((hN.ex e).ex e2) rfl
theorem ean_ofP (hN : NAt K N i H) (h : EvAP tr σ H A) : EvAN K N i tr σ H A := fun H1 e Q q => h H1 e Q fun vs H2 e2 a => q _ H2 (Ex.n e2) ((hN.ex e).ex e2) a
theorem ean_nil (hN : NAt K N i H) : EvAN K N i tNil σ H (fun us _ => us = []) := ean_of hN ea_nil
theorem ean_cons (hN : NAt K N i H) (h : EvN K N j te σ H P) (hP : UpZ K P) (hr : ∀ v H2, ExN N.p H H2 → NAt K N j H2 → P v H2 → EvAN K N k tr σ H2 A) : EvAN K N k (tCons te tr) σ H (fun us H3 => ∃ v r, us = v :: r ∧ P v H3 ∧ A r H3) := fun H1 e Q q =>
  h H1 e _ fun v H2 e2 n2 p => hr v H2 ((Ex.n e).trans e2) n2 p H2 (Ex.refl H2) _ fun r H3 e3 n3 a => q _ H3 (e2.trans e3) n3 ⟨v, r, rfl, hP v _ _ (n2.ez n3 e3) p, a⟩
/-- plain values -/
theorem ean_v (h : EvN K N j te σ H (fun x _ => x = v)) (hr : ∀ H2, ExN N.p H H2 → NAt K N j H2 → EvAN K N k tr σ H2 A) : EvAN K N k (tCons te tr) σ H (fun us H3 => ∃ r, us = v :: r ∧ A r H3) := fun H1 e Q q =>
  h H1 e _ fun x H2 e2 n2 p => by
    subst p
    exact hr H2 ((Ex.n e).trans e2) n2 H2 (Ex.refl H2) _ fun r H3 e3 n3 a => q _ H3 (e2.trans e3) n3 ⟨r, rfl, a⟩
theorem en_tup (h : EvAN K N j tr σ H (fun us _ => us = vs)) (hl : vs.length ≤ 100000) : EvN K N j (tTup tr) σ H (IsT vs) := fun H1 e Q q =>
  h H1 e _ fun us H2 e2 n2 a => by
    subst a
    exact ⟨sz_of hl, fun p hp => q _ _ (e2.trans (Ex.n (Ex.new hp))) (n2.ex (Ex.new hp)) ⟨p, rfl, upd_same⟩⟩
theorem en_asg {m : Nat} (h : EvN K N j te σ H P) (k : ∀ v H1, ExN N.p H H1 → NAt K N j H1 → P v H1 → EvS tz D (σ.set m (some v)) H1) : EvS (tSeq (tAsg te (gName m)) tz) D σ H := fun H1 e => h H1 e _ fun v H2 e2 n2 p => k v H2 ((Ex.n e).trans e2) n2 p H2 (Ex.refl H2)
theorem en_asgV {m : Nat} (h : EvN K N j te σ H (fun x _ => x = v)) (k : ∀ H1, ExN N.p H H1 → NAt K N j H1 → EvS tz D (σ.set m (some v)) H1) : EvS (tSeq (tAsg te (gName m)) tz) D σ H := en_asg h fun x H1 e n p => by
  subst p
  exact k H1 e n
theorem en_ret (h : EvN K N j te σ H P) (k : RetN K N j P H D.rt) : EvS (tRet te) D σ H := fun H1 e => h H1 e _ fun v H2 e2 n2 p => k v H2 ((Ex.n e).trans e2) n2 p
theorem RetN.mono {Q : VK} (e : ExN N.p H H') (k : RetN K N j P H Q) : RetN K N j P H' Q := fun v H2 e2 n2 p => k v H2 (e.trans e2) n2 p
theorem en_call {sp : Sp} {E : XK} (h : EvAN K N i tr σ H A) (hs : ∀ vs H1, ExN N.p H H1 → NAt K N i H1 → A vs H1 → ∀ Q : VK, RetN K N j P H1 Q → ∀ E, sp vs H1 Q E) : EvN K N j (tCall sp [] E tr) σ H P := fun H1 e Q q =>
  h H1 e _ fun vs H2 e2 n2 a => by
    show sp (vs ++ []) H2 Q E
    rw [List.append_nil]
    exact hs vs H2 ((Ex.n e).trans e2) n2 a Q (fun v H3 e3 n3 p => q v H3 (e2.trans e3) n3 p) E
/-- a call on the reader itself -/
theorem en_callR {sp : Sp} {E : XK} (hN : NAt K N i H) (h : EvA tr σ H vs) (hs : ∀ H1, NAt K N i H1 → ∀ Q : VK, RetN K N j P H1 Q → ∀ E, sp vs H1 Q E) : EvN K N j (tCall sp [] E tr) σ H P :=
  en_call (ean_of hN h) fun us H1 e n a Q k E => by
    subst a
    exact hs H1 n Q k E
theorem en_meth {sp : Sp} {E : XK} {m : Str} (hN : NAt K N i H) (ho : Ev to σ H (.ref N.p)) (hm : (fNum N i).lookup m = none) (h : EvA tr σ H vs) (hs : ∀ H1, Ex H H1 → NAt K N i H1 → ∀ Q : VK, RetN K N j P H1 Q → ∀ E, sp (.ref N.p :: vs) H1 Q E) :
    EvN K N j (tMeth (He.ga K "Numbers") m sp [] E to tr) σ H P := fun H1 e Q q =>
  ho H1 e _ fun H2 e2 => ⟨N.p, N.dx, fNum N i, rfl, (hN.ex (e.trans e2)).1, hm, h H2 (e.trans e2) _ fun H3 e3 => by
    show sp (.ref N.p :: (vs ++ [])) H3 Q E
    rw [List.append_nil]
    exact hs H3 ((e.trans e2).trans e3) (hN.ex ((e.trans e2).trans e3)) Q (fun v H4 e4 n4 p => q v H4 ((Ex.n (e2.trans e3)).trans e4) n4 p) E⟩
theorem en_make {sp : Sp} {E : XK} {C : Addr} (h : EvAN K N j tr σ H A)
    (hs : ∀ vs H1, ExN N.p H H1 → NAt K N j H1 → A vs H1 → ∀ x dx, H1 x = none → H1 dx = none → dx ≠ x → ∀ Q : VK, (∀ H2, Ex H1 H2 → P (.ref x) H2 → Q .non H2) → ∀ E, sp (.ref x :: vs) (upd (upd H1 dx (.own x)) x (.ins C dx [])) Q E) :
    EvN K N j (tMake C sp [] E tr) σ H P := fun H1 e Q q =>
  h H1 e _ fun vs H2 e2 n2 a x dx nx nd ne => by
    show sp (.ref x :: (vs ++ [])) _ _ E
    rw [List.append_nil]
    exact hs vs H2 ((Ex.n e).trans e2) n2 a x dx nx nd ne _ (fun H3 e3 p => ⟨rfl, q _ H3 (e2.trans (Ex.n e3)) (n2.ex e3) p⟩) E
/-- [.. for _ in range(n)] where a turn takes -/
theorem en_lc {n : Int} {m : Nat} {js : List Nat} {Pi : Nat → VP} (ix : Nat → Nat) (h : EvAN K N (ix 0) tr σ H (fun us _ => us = [.int n])) (hn : 0 ≤ n ∧ n ≤ 40000) (hP : ∀ i, UpZ K (Pi i)) (hw : ∀ x, wipe ((wipe σ js).set m (some x)) js = wipe σ js)
    (he : ∀ (i : Nat) H', (i : Int) < n → ExN N.p H H' → NAt K N (ix i) H' → EvN K N (ix (i + 1)) te ((wipe σ js).set m (some (.int (i : Int)))) H' (Pi i)) : EvN K N (ix n.toNat) (tLc (iRng1 tr) (gName m) tYes te js) σ H (LsP n.toNat Pi) := fun H0 e Q q =>
  h H0 e _ fun us H1 e1 n1 a => by
    subst a
    refine ⟨n, rfl, by omega, by omega, fun D hD => ?_⟩
    have hDp : D ≠ N.p := fun z => by
      rw [z, n1.1] at hD
      cases hD
    refine lc_range (lo := 0) (n := n.toNat) (fun i H' => ExN N.p H1 H' ∧ NAt K N (ix i) H' ∧ ∃ ys, H' D = some (.lst ys) ∧ ys.length = i ∧ ∀ (j : Nat) y, ys[j]? = some y → Pi j y H') ?_ (fun i H' hi w => ?_) (fun H' w => ?_)
    · exact ⟨Ex.n (Ex.new hD), n1.ex (Ex.new hD), [], upd_same, rfl, fun j y z => by simp at z⟩
    · have e0 : (0 : Int) + (i : Int) = (i : Int) := Int.zero_add _
      rw [e0]
      obtain ⟨w1, w2, ys, w3, w4, w5⟩ := w
      refine ⟨hw _, ?_⟩
      refine he i H' (by omega) (((Ex.n e).trans e1).trans w1) w2 H' (Ex.refl H') _ fun y H4 e4 n4 p4 => ?_
      have hD4 : H4 D = some (.lst ys) := e4 D _ hDp w3
      have ez : Ez K H4 (upd H4 D (.lst (ys ++ [y]))) := Ez.lst hD4
      refine ⟨ys, hD4, sz_lt (by omega), fun a o na ha => ?_, ?_, ys ++ [y], upd_same, by simp [w4], fun j z hz => ?_⟩
      · rw [upd_ne (ne_of_none ha hD)]
        exact e4 a o na (w1 a o na ha)
      · refine ⟨?_, ?_⟩
        · rw [upd_ne (Ne.symm hDp)]
          exact n4.1
        · rw [upd_ne (ne_of_none n1.2 hD)]
          exact n4.2
      · rcases Nat.lt_or_ge j ys.length with r | r
        · rw [List.getElem?_append_left r] at hz
          exact hP j z _ _ ez (hP j z _ _ (w2.ez n4 e4) (w5 j z hz))
        · rw [List.getElem?_append_right r] at hz
          have : j = i := by
            rcases Nat.lt_or_ge (j - ys.length) 1 with r2 | r2
            · omega
            · rw [List.getElem?_eq_none (by simpa using r2)] at hz
              cases hz
          subst this
          rw [w4, Nat.sub_self] at hz
          have : y = z := Option.some.inj hz
          subst this
          exact hP _ _ _ _ ez p4
    · obtain ⟨w1, w2, ys, w3, w4, w5⟩ := w
      exact q _ H' (e1.trans w1) w2 ⟨D, ys, rfl, w3, w4, w5⟩
/-! reads of the reader -/
theorem ev_row (c : Cls K (He.ga K "Numbers")) (n : NoAttr K (He.ga K "Numbers") "row") (h : Ev te σ H (.ref N.p)) (hN : NAt K N i H) : Ev (tFld K te "row") σ H (.ref N.rl) := ev_fld h hN.1 c n rfl
theorem ev_taken (c : Cls K (He.ga K "Numbers")) (n : NoAttr K (He.ga K "Numbers") "taken") (h : Ev te σ H (.ref N.p)) (hN : NAt K N i H) : Ev (tFld K te "taken") σ H (.int (i : Int)) := ev_fld h hN.1 c n rfl
end
/-! what lies at a place of a list -/
def AtR (R : List Int) (i : Nat) (l : List Int) : Prop := ∃ r, R.drop i = l ++ r
theorem AtR.hd {R : List Int} {i : Nat} {a : Int} {l : List Int} (h : AtR R i (a :: l)) : R[i]? = some a := by
  obtain ⟨r, e⟩ := h
  have : (R.drop i)[0]? = some a := by rw [e] <;> rfl
  rw [List.getElem?_drop] at this
  exact this
theorem AtR.tl {R : List Int} {i : Nat} {a : Int} {l : List Int} (h : AtR R i (a :: l)) : AtR R (i + 1) l := by
  obtain ⟨r, e⟩ := h
  refine ⟨r, ?_⟩
  have : (R.drop i).drop 1 = R.drop (i + 1) := by rw [List.drop_drop]
  rw [← this, e] <;> rfl
theorem AtR.left {R : List Int} {i : Nat} {l m : List Int} (h : AtR R i (l ++ m)) : AtR R i l := by
  obtain ⟨r, e⟩ := h
  exact ⟨m ++ r, by rw [e, List.append_assoc]⟩
theorem AtR.right {R : List Int} {i : Nat} {l m : List Int} (h : AtR R i (l ++ m)) : AtR R (i + l.length) m := by
  obtain ⟨r, e⟩ := h
  refine ⟨r, ?_⟩
  have : (R.drop i).drop l.length = R.drop (i + l.length) := by rw [List.drop_drop]
  rw [← this, e, List.append_assoc, List.drop_left]
theorem AtR.len {R : List Int} {i : Nat} {l : List Int} (h : AtR R i l) : l.length ≤ R.length - i := by
  obtain ⟨r, e⟩ := h
  have := congrArg List.length e
  rw [List.length_drop, List.length_append] at this
  omega
theorem AtR.lt {R : List Int} {i : Nat} {a : Int} {l : List Int} (h : AtR R i (a :: l)) : i < R.length := (List.getElem?_eq_some_iff.mp h.hd).1
/-- the i-th of pieces that lie one behind another -/
theorem AtR.piece {α : Type} [Inhabited α] {R : List Int} {f : α → List Int} {c : Nat} (hf : ∀ x, (f x).length = c) : ∀ {l : List α} {s : Nat}, AtR R s (l.flatMap f) → ∀ i, i < l.length → AtR R (s + i * c) (f (l.getD i default))
  | [], _, _, i, hi => by cases hi
  | x :: r, s, h, 0, _ => by
    rw [List.flatMap_cons] at h
    rw [Nat.zero_mul]
    exact h.left
  | x :: r, s, h, i + 1, hi => by
    rw [List.flatMap_cons] at h
    have q := AtR.piece hf h.right i (Nat.lt_of_succ_lt_succ hi)
    rw [hf] at q
    rw [Nat.succ_mul, Nat.add_comm (i * c) c, ← Nat.add_assoc]
    exact q
theorem flat_eq {α : Type} {f : α → List Int} {c : Nat} (hf : ∀ x, (f x).length = c) : ∀ l : List α, (l.flatMap f).length = l.length * c
  | [] => by simp
  | x :: r => by
    have := flat_eq hf r
    simp only [List.flatMap_cons, List.length_append, List.length_cons, Nat.succ_mul, hf]
    omega
end K82
/-! The defs of the text as data, what the top has written about them. -/
namespace K82
open PySem PySem.Spec PyProof.Rows L2
def top (i : Nat) : Stmt := PySem.Challenge.pw_armwarrant_k82_whole_long_arms.main.body.getD i (.Pass ⟨0, 0, 0, 0⟩)
abbrev s_root_up : Stmt := top 3
abbrev s_divide_up : Stmt := top 4
abbrev s_dot : Stmt := top 5
abbrev s_length_up : Stmt := top 6
abbrev s_reduced : Stmt := top 9
abbrev s_turned : Stmt := top 10
abbrev s_shifted : Stmt := top 11
abbrev s_added : Stmt := top 12
abbrev s_true_place : Stmt := top 13
abbrev s_spot : Stmt := top 14
abbrev s_unknown : Stmt := top 15
abbrev s_is_within : Stmt := top 28
abbrev s_Joint_init : Stmt := inClass (top 30) 0
abbrev s_Body_init : Stmt := inClass (top 35) 0
abbrev s_Capsule_init : Stmt := inClass (top 36) 0
abbrev s_Arm_init : Stmt := inClass (top 37) 0
abbrev s_Arm_fits : Stmt := inClass (top 37) 1
abbrev s_Move_init : Stmt := inClass (top 39) 0
abbrev s_Move_middle : Stmt := inClass (top 39) 1
abbrev s_Move_halves : Stmt := inClass (top 39) 2
abbrev s_Mover_init : Stmt := inClass (top 41) 0
abbrev s_Mover_bodies : Stmt := inClass (top 41) 1
abbrev s_Mover_unknowns : Stmt := inClass (top 41) 3
abbrev s_Matter_init : Stmt := inClass (top 42) 0
abbrev s_Matter_pairs : Stmt := inClass (top 42) 1
abbrev s_body_numbers : Stmt := top 53
abbrev s_take_body : Stmt := top 54
abbrev s_joint_numbers : Stmt := top 55
abbrev s_take_joint : Stmt := top 56
abbrev s_arm_numbers : Stmt := top 57
abbrev s_take_capsule : Stmt := top 58
abbrev s_take_arm : Stmt := top 59
abbrev s_mover_numbers : Stmt := top 62
abbrev s_take_row : Stmt := top 63
abbrev s_take_mover : Stmt := top 64
abbrev s_matter_numbers : Stmt := top 65
abbrev s_take_matter : Stmt := top 66
abbrev s_tree_numbers : Stmt := top 67
abbrev s_take_tree : Stmt := top 68
abbrev s_take_whole_tree : Stmt := top 69
abbrev s_text_of : Stmt := top 72
abbrev s_number_of : Stmt := top 73
abbrev s_Numbers_init : Stmt := inClass (top 74) 0
abbrev s_Numbers_take : Stmt := inClass (top 74) 1
abbrev s_Numbers_take_within : Stmt := inClass (top 74) 2
abbrev s_Numbers_take_size : Stmt := inClass (top 74) 3
abbrev s_Numbers_take_vector : Stmt := inClass (top 74) 4
abbrev s_Numbers_finish : Stmt := inClass (top 74) 6
abbrev s_write_certificate : Stmt := top 77
abbrev s_read_certificate : Stmt := top 78
abbrev s_l_rows : Stmt := top 80
abbrev s_l_joint : Stmt := top 81
abbrev s_l_capsule : Stmt := top 82
abbrev s_l_values : Stmt := top 83
abbrev s_l_turned : Stmt := top 84
abbrev s_l_true : Stmt := top 85
abbrev s_l_meant : Stmt := top 86
abbrev s_l_offsets : Stmt := top 87
abbrev s_l_arm : Stmt := top 88
abbrev s_l_pairs : Stmt := top 89
abbrev s_law : Stmt := top 90
def d_root_up : He.DefD := ⟨("root_up", none), "root_up", "root_up", defArgs s_root_up, defBody s_root_up, defScope s_root_up, [], []⟩
def d_divide_up : He.DefD := ⟨("divide_up", none), "divide_up", "divide_up", defArgs s_divide_up, defBody s_divide_up, defScope s_divide_up, [], []⟩
def d_dot : He.DefD := ⟨("dot", none), "dot", "dot", defArgs s_dot, defBody s_dot, defScope s_dot, [], []⟩
def d_length_up : He.DefD := ⟨("length_up", none), "length_up", "length_up", defArgs s_length_up, defBody s_length_up, defScope s_length_up, [], []⟩
def d_reduced : He.DefD := ⟨("reduced", none), "reduced", "reduced", defArgs s_reduced, defBody s_reduced, defScope s_reduced, [], []⟩
def d_turned : He.DefD := ⟨("turned", none), "turned", "turned", defArgs s_turned, defBody s_turned, defScope s_turned, [], []⟩
def d_shifted : He.DefD := ⟨("shifted", none), "shifted", "shifted", defArgs s_shifted, defBody s_shifted, defScope s_shifted, [], []⟩
def d_added : He.DefD := ⟨("added", none), "added", "added", defArgs s_added, defBody s_added, defScope s_added, [], []⟩
def d_true_place : He.DefD := ⟨("true_place", none), "true_place", "true_place", defArgs s_true_place, defBody s_true_place, defScope s_true_place, [], []⟩
def d_spot : He.DefD := ⟨("spot", none), "spot", "spot", defArgs s_spot, defBody s_spot, defScope s_spot, [], []⟩
def d_unknown : He.DefD := ⟨("unknown", none), "unknown", "unknown", defArgs s_unknown, defBody s_unknown, defScope s_unknown, [], []⟩
def d_is_within : He.DefD := ⟨("is_within_joints", none), "is_within", "is_within", defArgs s_is_within, defBody s_is_within, defScope s_is_within, [], []⟩
def d_Joint_init : He.DefD := ⟨("Joint", some "__init__"), "__init__", "Joint.__init__", defArgs s_Joint_init, defBody s_Joint_init, defScope s_Joint_init, [], [("box", .int 0), ("error", .int 0), ("speed", .int 1), ("accel", .int 1), ("brake", .int 1)]⟩
def d_Body_init : He.DefD := ⟨("Body", some "__init__"), "__init__", "Body.__init__", defArgs s_Body_init, defBody s_Body_init, defScope s_Body_init, [], []⟩
def d_Capsule_init : He.DefD := ⟨("Capsule", some "__init__"), "__init__", "Capsule.__init__", defArgs s_Capsule_init, defBody s_Capsule_init, defScope s_Capsule_init, [], []⟩
def d_Arm_init : He.DefD := ⟨("Arm", some "__init__"), "__init__", "Arm.__init__", defArgs s_Arm_init, defBody s_Arm_init, defScope s_Arm_init, [], []⟩
def d_Arm_fits : He.DefD := ⟨("Arm", some "fits"), "fits", "Arm.fits", defArgs s_Arm_fits, defBody s_Arm_fits, defScope s_Arm_fits, [], []⟩
def d_Move_init : He.DefD := ⟨("Move", some "__init__"), "__init__", "Move.__init__", defArgs s_Move_init, defBody s_Move_init, defScope s_Move_init, [], []⟩
def d_Move_middle : He.DefD := ⟨("Move", some "middle"), "middle", "Move.middle", defArgs s_Move_middle, defBody s_Move_middle, defScope s_Move_middle, [], []⟩
def d_Move_halves : He.DefD := ⟨("Move", some "halves"), "halves", "Move.halves", defArgs s_Move_halves, defBody s_Move_halves, defScope s_Move_halves, [], []⟩
def d_Mover_init : He.DefD := ⟨("Mover", some "__init__"), "__init__", "Mover.__init__", defArgs s_Mover_init, defBody s_Mover_init, defScope s_Mover_init, [.adr (He.dflAt ("Mover", some "__init__") 0)], []⟩
def d_Mover_bodies : He.DefD := ⟨("Mover", some "bodies"), "bodies", "Mover.bodies", defArgs s_Mover_bodies, defBody s_Mover_bodies, defScope s_Mover_bodies, [], []⟩
def d_Mover_unknowns : He.DefD := ⟨("Mover", some "unknowns"), "unknowns", "Mover.unknowns", defArgs s_Mover_unknowns, defBody s_Mover_unknowns, defScope s_Mover_unknowns, [], []⟩
def d_Matter_init : He.DefD := ⟨("Matter", some "__init__"), "__init__", "Matter.__init__", defArgs s_Matter_init, defBody s_Matter_init, defScope s_Matter_init, [.non], []⟩
def d_Matter_pairs : He.DefD := ⟨("Matter", some "pairs"), "pairs", "Matter.pairs", defArgs s_Matter_pairs, defBody s_Matter_pairs, defScope s_Matter_pairs, [], []⟩
def d_body_numbers : He.DefD := ⟨("body_numbers", none), "body_numbers", "body_numbers", defArgs s_body_numbers, defBody s_body_numbers, defScope s_body_numbers, [], []⟩
def d_take_body : He.DefD := ⟨("take_body", none), "take_body", "take_body", defArgs s_take_body, defBody s_take_body, defScope s_take_body, [], []⟩
def d_joint_numbers : He.DefD := ⟨("joint_numbers", none), "joint_numbers", "joint_numbers", defArgs s_joint_numbers, defBody s_joint_numbers, defScope s_joint_numbers, [], []⟩
def d_take_joint : He.DefD := ⟨("take_joint", none), "take_joint", "take_joint", defArgs s_take_joint, defBody s_take_joint, defScope s_take_joint, [], []⟩
def d_arm_numbers : He.DefD := ⟨("arm_numbers", none), "arm_numbers", "arm_numbers", defArgs s_arm_numbers, defBody s_arm_numbers, defScope s_arm_numbers, [], []⟩
def d_take_capsule : He.DefD := ⟨("take_capsule", none), "take_capsule", "take_capsule", defArgs s_take_capsule, defBody s_take_capsule, defScope s_take_capsule, [], []⟩
def d_take_arm : He.DefD := ⟨("take_arm", none), "take_arm", "take_arm", defArgs s_take_arm, defBody s_take_arm, defScope s_take_arm, [], []⟩
def d_mover_numbers : He.DefD := ⟨("mover_numbers", none), "mover_numbers", "mover_numbers", defArgs s_mover_numbers, defBody s_mover_numbers, defScope s_mover_numbers, [], []⟩
def d_take_row : He.DefD := ⟨("take_row", none), "take_row", "take_row", defArgs s_take_row, defBody s_take_row, defScope s_take_row, [], []⟩
def d_take_mover : He.DefD := ⟨("take_mover", none), "take_mover", "take_mover", defArgs s_take_mover, defBody s_take_mover, defScope s_take_mover, [], []⟩
def d_matter_numbers : He.DefD := ⟨("matter_numbers", none), "matter_numbers", "matter_numbers", defArgs s_matter_numbers, defBody s_matter_numbers, defScope s_matter_numbers, [], []⟩
def d_take_matter : He.DefD := ⟨("take_matter", none), "take_matter", "take_matter", defArgs s_take_matter, defBody s_take_matter, defScope s_take_matter, [], []⟩
def d_tree_numbers : He.DefD := ⟨("tree_numbers", none), "tree_numbers", "tree_numbers", defArgs s_tree_numbers, defBody s_tree_numbers, defScope s_tree_numbers, [], []⟩
def d_take_tree : He.DefD := ⟨("take_tree", none), "take_tree", "take_tree", defArgs s_take_tree, defBody s_take_tree, defScope s_take_tree, [], []⟩
def d_take_whole_tree : He.DefD := ⟨("take_whole_tree", none), "take_whole_tree", "take_whole_tree", defArgs s_take_whole_tree, defBody s_take_whole_tree, defScope s_take_whole_tree, [], []⟩
def d_text_of : He.DefD := ⟨("text_of", none), "text_of", "text_of", defArgs s_text_of, defBody s_text_of, defScope s_text_of, [], []⟩
def d_number_of : He.DefD := ⟨("number_of", none), "number_of", "number_of", defArgs s_number_of, defBody s_number_of, defScope s_number_of, [], []⟩
def d_Numbers_init : He.DefD := ⟨("Numbers", some "__init__"), "__init__", "Numbers.__init__", defArgs s_Numbers_init, defBody s_Numbers_init, defScope s_Numbers_init, [], []⟩
def d_Numbers_take : He.DefD := ⟨("Numbers", some "take"), "take", "Numbers.take", defArgs s_Numbers_take, defBody s_Numbers_take, defScope s_Numbers_take, [], []⟩
def d_Numbers_take_within : He.DefD := ⟨("Numbers", some "take_within"), "take_within", "Numbers.take_within", defArgs s_Numbers_take_within, defBody s_Numbers_take_within, defScope s_Numbers_take_within, [], []⟩
def d_Numbers_take_size : He.DefD := ⟨("Numbers", some "take_size"), "take_size", "Numbers.take_size", defArgs s_Numbers_take_size, defBody s_Numbers_take_size, defScope s_Numbers_take_size, [], []⟩
def d_Numbers_take_vector : He.DefD := ⟨("Numbers", some "take_vector"), "take_vector", "Numbers.take_vector", defArgs s_Numbers_take_vector, defBody s_Numbers_take_vector, defScope s_Numbers_take_vector, [], []⟩
def d_Numbers_finish : He.DefD := ⟨("Numbers", some "finish"), "finish", "Numbers.finish", defArgs s_Numbers_finish, defBody s_Numbers_finish, defScope s_Numbers_finish, [], []⟩
def d_write_certificate : He.DefD := ⟨("write_certificate", none), "write_certificate", "write_certificate", defArgs s_write_certificate, defBody s_write_certificate, defScope s_write_certificate, [], []⟩
def d_read_certificate : He.DefD := ⟨("read_certificate", none), "read_certificate", "read_certificate", defArgs s_read_certificate, defBody s_read_certificate, defScope s_read_certificate, [], []⟩
def d_l_rows : He.DefD := ⟨("_law_rows", none), "_law_rows", "_law_rows", defArgs s_l_rows, defBody s_l_rows, defScope s_l_rows, [], []⟩
def d_l_joint : He.DefD := ⟨("_law_joint", none), "_law_joint", "_law_joint", defArgs s_l_joint, defBody s_l_joint, defScope s_l_joint, [], []⟩
def d_l_capsule : He.DefD := ⟨("_law_capsule", none), "_law_capsule", "_law_capsule", defArgs s_l_capsule, defBody s_l_capsule, defScope s_l_capsule, [], []⟩
def d_l_values : He.DefD := ⟨("_law_values", none), "_law_values", "_law_values", defArgs s_l_values, defBody s_l_values, defScope s_l_values, [], []⟩
def d_l_turned : He.DefD := ⟨("_law_turned", none), "_law_turned", "_law_turned", defArgs s_l_turned, defBody s_l_turned, defScope s_l_turned, [], []⟩
def d_l_true : He.DefD := ⟨("_law_true", none), "_law_true", "_law_true", defArgs s_l_true, defBody s_l_true, defScope s_l_true, [], []⟩
def d_l_meant : He.DefD := ⟨("_law_meant", none), "_law_meant", "_law_meant", defArgs s_l_meant, defBody s_l_meant, defScope s_l_meant, [], []⟩
def d_l_offsets : He.DefD := ⟨("_law_offsets", none), "_law_offsets", "_law_offsets", defArgs s_l_offsets, defBody s_l_offsets, defScope s_l_offsets, [], []⟩
def d_l_arm : He.DefD := ⟨("_law_arm", none), "_law_arm", "_law_arm", defArgs s_l_arm, defBody s_l_arm, defScope s_l_arm, [], []⟩
def d_l_pairs : He.DefD := ⟨("_law_pairs", none), "_law_pairs", "_law_pairs", defArgs s_l_pairs, defBody s_l_pairs, defScope s_l_pairs, [], []⟩
def d_law : He.DefD := ⟨("law", none), "law", "law", defArgs s_law, defBody s_law, defScope s_law, [], []⟩
def fn0 : List He.DefD := [d_root_up, d_divide_up, d_dot, d_length_up, d_reduced, d_turned, d_shifted, d_added, d_true_place, d_spot, d_unknown, d_is_within, d_Joint_init, d_Body_init, d_Capsule_init, d_Arm_init, d_Arm_fits, d_Move_init, d_Move_middle, d_Move_halves]
def fn1 : List He.DefD := [d_Mover_init, d_Mover_bodies, d_Mover_unknowns, d_Matter_init, d_Matter_pairs, d_body_numbers, d_take_body, d_joint_numbers, d_take_joint, d_arm_numbers, d_take_capsule, d_take_arm, d_mover_numbers, d_take_row, d_take_mover, d_matter_numbers, d_take_matter, d_tree_numbers, d_take_tree, d_take_whole_tree]
def fn2 : List He.DefD := [d_text_of, d_number_of, d_Numbers_init, d_Numbers_take, d_Numbers_take_within, d_Numbers_take_size, d_Numbers_take_vector, d_Numbers_finish, d_write_certificate, d_read_certificate, d_l_rows, d_l_joint, d_l_capsule, d_l_values, d_l_turned, d_l_true, d_l_meant, d_l_offsets, d_l_arm, d_l_pairs]
def fn3 : List He.DefD := [d_law]
def fn : List He.DefD := fn0 ++ (fn1 ++ (fn2 ++ (fn3)))
def fa0 : List He.Fa := [.glo "root_up", .glo "divide_up", .glo "dot", .glo "length_up", .glo "reduced", .glo "turned", .glo "shifted", .glo "added", .glo "true_place", .glo "spot", .glo "unknown", .glo "body_numbers", .glo "take_body", .glo "joint_numbers", .glo "take_joint", .glo "arm_numbers", .glo "take_capsule", .glo "take_arm", .glo "mover_numbers", .glo "take_row", .glo "take_mover", .glo "matter_numbers", .glo "take_matter", .glo "tree_numbers", .glo "take_tree", .glo "take_whole_tree", .glo "text_of", .glo "number_of", .glo "write_certificate", .glo "read_certificate"]
def fa1 : List He.Fa := [.glo "_law_rows", .glo "_law_joint", .glo "_law_capsule", .glo "_law_values", .glo "_law_turned", .glo "_law_true", .glo "_law_meant", .glo "_law_offsets", .glo "_law_arm", .glo "_law_pairs", .glo "law", .glo "is_within_joints", .glo "Joint", .glo "Body", .glo "Capsule", .glo "Arm", .glo "Move", .glo "Mover", .glo "Matter", .glo "Numbers", .glo "KINDS", .glo "HALVES", .free "abs", .free "all", .free "int", .free "len", .free "max", .free "range", .free "str", .free "tuple"]
def fa2 : List He.Fa := [.int "UNIT" 1000000, .int "FAR" 10000000, .int "STEEP" 8000000, .int "LOOSE" 100000, .int "FAST" 1000000000, .int "HARD" 10000000000, .int "THICK" 1000000, .int "MOST_JOINTS" 6, .int "MOST_CAPSULES" 8, .int "DEEPEST" 20, .int "STEEPEST" 1000, .int "FARTHEST" 100000000000, .int "LONGEST" 24, .str "CERTIFICATE" "armwarrant certificate", .cls "Joint", .cls "Body", .cls "Capsule", .cls "Arm", .cls "Move", .cls "Mover", .cls "Matter", .cls "Numbers", .noat "Joint" "turns", .noat "Joint" "axis", .noat "Joint" "offset", .noat "Joint" "least", .noat "Joint" "most", .noat "Joint" "box", .noat "Joint" "error", .noat "Joint" "speed"]
def fa3 : List He.Fa := [.noat "Joint" "accel", .noat "Joint" "brake", .noat "Body" "first", .noat "Body" "last", .noat "Body" "radius", .noat "Capsule" "link", .noat "Capsule" "body", .noat "Arm" "joints", .noat "Arm" "capsules", .noat "Arm" "beside", .noat "Move" "first", .noat "Move" "last", .noat "Mover" "arm", .noat "Mover" "move", .noat "Mover" "held", .noat "Matter" "kind", .noat "Matter" "mover", .noat "Matter" "other", .noat "Numbers" "row", .noat "Numbers" "taken", .meth "Arm" "fits", .meth "Move" "middle", .meth "Move" "halves", .meth "Mover" "bodies", .meth "Mover" "unknowns", .meth "Matter" "pairs", .meth "Numbers" "take", .meth "Numbers" "take_within", .meth "Numbers" "take_size", .meth "Numbers" "take_vector"]
def fa4 : List He.Fa := [.meth "Numbers" "finish", .mkr "Joint", .mkr "Body", .mkr "Capsule", .mkr "Arm", .mkr "Move", .mkr "Mover", .mkr "Matter", .mkr "Numbers"]
def fa : List He.Fa := fa0 ++ (fa1 ++ (fa2 ++ (fa3 ++ (fa4))))
def loose0 : List Str := ["_wall", "root_up", "divide_up", "dot", "length_up", "UNIT", "reduced", "turned", "shifted", "added", "true_place", "spot", "unknown", "ArmwarrantError", "InvalidArm", "InvalidShape", "InvalidMove", "InvalidPaper", "FAR", "STEEP", "LOOSE", "FAST", "HARD", "is_within", "is_within_joints", "Joint", "THICK", "MOST_JOINTS", "MOST_CAPSULES", "Body"]
def loose1 : List Str := ["Capsule", "Arm", "Move", "Mover", "Matter", "DEEPEST", "STEEPEST", "FARTHEST", "Block", "Box", "Wall", "KINDS", "HALVES", "body_numbers", "take_body", "joint_numbers", "take_joint", "arm_numbers", "take_capsule", "take_arm", "solid_numbers", "take_solid", "mover_numbers", "take_row", "take_mover", "matter_numbers", "take_matter", "tree_numbers", "take_tree", "take_whole_tree"]
def loose2 : List Str := ["LONGEST", "text_of", "number_of", "Numbers", "CERTIFICATE", "write_certificate", "read_certificate", "_law_rows", "_law_joint", "_law_capsule", "_law_values", "_law_turned", "_law_true", "_law_meant", "_law_offsets", "_law_arm", "_law_pairs"]
def loose : List Str := loose0 ++ (loose1 ++ (loose2))
def bltB (K : PySem.W.Frag) (x : Str) (id : String) : Bool := match PySem.W.nsIn K mainGlobals x with
  | some (some (.builtin j)) => decide (j = id)
  | _ => false
def neB (K : PySem.W.Frag) (x : Str) : Bool := !(He.ga K x == He.ga K "Numbers")
def kindB (K : PySem.W.Frag) (x : Str) : Bool := match K.lookup (He.ga K x) with
  | some ⟨.type c, none, _, _⟩ => decide (c = "tuple")
  | _ => false
def exl (K : PySem.W.Frag) : List Bool := [bltB K "gcd" "math.gcd", bltB K "isqrt" "math.isqrt", He.tupB K "KINDS" [.str "shape", .str "self", .str "arms"], He.tupB K "HALVES" [.str "leaf", .str "first", .str "second"],
  neB K "Joint", neB K "Body", neB K "Capsule", neB K "Arm", neB K "Move", neB K "Mover", neB K "Matter", kindB K "KINDS"]
def ex (K : PySem.W.Frag) : Bool := (exl K).all id
/-- all that the walk asks of what the top has written -/
structure Tx (K : PySem.W.Frag) (mg : Str → Option Value) : Prop where
  c : He.SaysD fa fn K
  e : ex K = true
  X : ∃ h : Heap, K.In h ∧ h.Ns mainGlobals mg
section
variable {K : PySem.W.Frag} {mg : Str → Option Value}
theorem Tx.exl_at (T : Tx K mg) (i : Nat) {b : Bool} (h : (exl K)[i]? = some b) : b = true := List.all_eq_true.mp T.e b (List.mem_of_getElem? h)
theorem blt_ok (T : Tx K mg) {x : Str} {id : String} (h : bltB K x id = true) : mg x = some (.builtin id) := by
  obtain ⟨hp, X, G⟩ := T.X
  unfold bltB at h
  cases e : PySem.W.nsIn K mainGlobals x with
  | none => rw [e] at h; cases h
  | some o =>
    rw [e] at h
    cases o with
    | none => cases h
    | some v =>
      cases v with
      | builtin j =>
        have ej : j = id := of_decide_eq_true h
        rw [ej] at e
        exact PySem.W.mg_of X G e
      | _ => cases h
theorem neB_ok {x : Str} (h : neB K x = true) : He.ga K x ≠ He.ga K "Numbers" := fun e => by
  unfold neB at h
  rw [e] at h
  simp at h
theorem gb_gcd (T : Tx K mg) : mg "gcd" = some (.builtin "math.gcd") := blt_ok T (T.exl_at 0 rfl)
theorem gb_isqrt (T : Tx K mg) : mg "isqrt" = some (.builtin "math.isqrt") := blt_ok T (T.exl_at 1 rfl)
theorem kinds_t (T : Tx K mg) (H : Hp) : SqT K H (He.ga K "KINDS") [.str "shape", .str "self", .str "arms"] := He.tupB_ok (T.exl_at 2 rfl) H
theorem kind_ok {x : Str} (h : kindB K x = true) : ∃ o, K.lookup (He.ga K x) = some o ∧ o.cls = .type "tuple" ∧ o.dict = none := by
  unfold kindB at h
  cases e : K.lookup (He.ga K x) with
  | none => rw [e] at h; cases h
  | some o =>
    rw [e] at h
    obtain ⟨oc, od, dt, sl⟩ := o
    cases oc with
    | type c =>
      cases od with
      | none => exact ⟨_, rfl, congrArg Value.type (of_decide_eq_true h), rfl⟩
      | some a => cases h
    | _ => cases od <;> cases h
theorem kinds_ty (T : Tx K mg) (H : Hp) : tyV K "tuple" (.ref (He.ga K "KINDS")) H := .inr (.inl ⟨rfl, kind_ok (T.exl_at 11 rfl)⟩)
theorem halves_t (T : Tx K mg) (H : Hp) : SqT K H (He.ga K "HALVES") [.str "leaf", .str "first", .str "second"] := He.tupB_ok (T.exl_at 3 rfl) H
theorem ne_Joint (T : Tx K mg) : He.ga K "Joint" ≠ He.ga K "Numbers" := neB_ok (T.exl_at 4 rfl)
theorem ne_Body (T : Tx K mg) : He.ga K "Body" ≠ He.ga K "Numbers" := neB_ok (T.exl_at 5 rfl)
theorem ne_Capsule (T : Tx K mg) : He.ga K "Capsule" ≠ He.ga K "Numbers" := neB_ok (T.exl_at 6 rfl)
theorem ne_Arm (T : Tx K mg) : He.ga K "Arm" ≠ He.ga K "Numbers" := neB_ok (T.exl_at 7 rfl)
theorem ne_Move (T : Tx K mg) : He.ga K "Move" ≠ He.ga K "Numbers" := neB_ok (T.exl_at 8 rfl)
theorem ne_Mover (T : Tx K mg) : He.ga K "Mover" ≠ He.ga K "Numbers" := neB_ok (T.exl_at 9 rfl)
theorem ne_Matter (T : Tx K mg) : He.ga K "Matter" ≠ He.ga K "Numbers" := neB_ok (T.exl_at 10 rfl)
theorem g_root_up (T : Tx K mg) : mg "root_up" = some (.ref (He.fAd K d_root_up.at_)) := let ⟨_, X, G⟩ := T.X; He.glo_ok X G (T.c.fact 0 (f := .glo "root_up") rfl)
theorem g_divide_up (T : Tx K mg) : mg "divide_up" = some (.ref (He.fAd K d_divide_up.at_)) := let ⟨_, X, G⟩ := T.X; He.glo_ok X G (T.c.fact 1 (f := .glo "divide_up") rfl)
theorem g_dot (T : Tx K mg) : mg "dot" = some (.ref (He.fAd K d_dot.at_)) := let ⟨_, X, G⟩ := T.X; He.glo_ok X G (T.c.fact 2 (f := .glo "dot") rfl)
theorem g_length_up (T : Tx K mg) : mg "length_up" = some (.ref (He.fAd K d_length_up.at_)) := let ⟨_, X, G⟩ := T.X; He.glo_ok X G (T.c.fact 3 (f := .glo "length_up") rfl)
theorem g_reduced (T : Tx K mg) : mg "reduced" = some (.ref (He.fAd K d_reduced.at_)) := let ⟨_, X, G⟩ := T.X; He.glo_ok X G (T.c.fact 4 (f := .glo "reduced") rfl)
theorem g_turned (T : Tx K mg) : mg "turned" = some (.ref (He.fAd K d_turned.at_)) := let ⟨_, X, G⟩ := T.X; He.glo_ok X G (T.c.fact 5 (f := .glo "turned") rfl)
theorem g_shifted (T : Tx K mg) : mg "shifted" = some (.ref (He.fAd K d_shifted.at_)) := let ⟨_, X, G⟩ := T.X; He.glo_ok X G (T.c.fact 6 (f := .glo "shifted") rfl)
theorem g_added (T : Tx K mg) : mg "added" = some (.ref (He.fAd K d_added.at_)) := let ⟨_, X, G⟩ := T.X; He.glo_ok X G (T.c.fact 7 (f := .glo "added") rfl)
theorem g_true_place (T : Tx K mg) : mg "true_place" = some (.ref (He.fAd K d_true_place.at_)) := let ⟨_, X, G⟩ := T.X; He.glo_ok X G (T.c.fact 8 (f := .glo "true_place") rfl)
theorem g_spot (T : Tx K mg) : mg "spot" = some (.ref (He.fAd K d_spot.at_)) := let ⟨_, X, G⟩ := T.X; He.glo_ok X G (T.c.fact 9 (f := .glo "spot") rfl)
theorem g_unknown (T : Tx K mg) : mg "unknown" = some (.ref (He.fAd K d_unknown.at_)) := let ⟨_, X, G⟩ := T.X; He.glo_ok X G (T.c.fact 10 (f := .glo "unknown") rfl)
theorem g_body_numbers (T : Tx K mg) : mg "body_numbers" = some (.ref (He.fAd K d_body_numbers.at_)) := let ⟨_, X, G⟩ := T.X; He.glo_ok X G (T.c.fact 11 (f := .glo "body_numbers") rfl)
theorem g_take_body (T : Tx K mg) : mg "take_body" = some (.ref (He.fAd K d_take_body.at_)) := let ⟨_, X, G⟩ := T.X; He.glo_ok X G (T.c.fact 12 (f := .glo "take_body") rfl)
theorem g_joint_numbers (T : Tx K mg) : mg "joint_numbers" = some (.ref (He.fAd K d_joint_numbers.at_)) := let ⟨_, X, G⟩ := T.X; He.glo_ok X G (T.c.fact 13 (f := .glo "joint_numbers") rfl)
theorem g_take_joint (T : Tx K mg) : mg "take_joint" = some (.ref (He.fAd K d_take_joint.at_)) := let ⟨_, X, G⟩ := T.X; He.glo_ok X G (T.c.fact 14 (f := .glo "take_joint") rfl)
theorem g_arm_numbers (T : Tx K mg) : mg "arm_numbers" = some (.ref (He.fAd K d_arm_numbers.at_)) := let ⟨_, X, G⟩ := T.X; He.glo_ok X G (T.c.fact 15 (f := .glo "arm_numbers") rfl)
theorem g_take_capsule (T : Tx K mg) : mg "take_capsule" = some (.ref (He.fAd K d_take_capsule.at_)) := let ⟨_, X, G⟩ := T.X; He.glo_ok X G (T.c.fact 16 (f := .glo "take_capsule") rfl)
theorem g_take_arm (T : Tx K mg) : mg "take_arm" = some (.ref (He.fAd K d_take_arm.at_)) := let ⟨_, X, G⟩ := T.X; He.glo_ok X G (T.c.fact 17 (f := .glo "take_arm") rfl)
theorem g_mover_numbers (T : Tx K mg) : mg "mover_numbers" = some (.ref (He.fAd K d_mover_numbers.at_)) := let ⟨_, X, G⟩ := T.X; He.glo_ok X G (T.c.fact 18 (f := .glo "mover_numbers") rfl)
theorem g_take_row (T : Tx K mg) : mg "take_row" = some (.ref (He.fAd K d_take_row.at_)) := let ⟨_, X, G⟩ := T.X; He.glo_ok X G (T.c.fact 19 (f := .glo "take_row") rfl)
theorem g_take_mover (T : Tx K mg) : mg "take_mover" = some (.ref (He.fAd K d_take_mover.at_)) := let ⟨_, X, G⟩ := T.X; He.glo_ok X G (T.c.fact 20 (f := .glo "take_mover") rfl)
theorem g_matter_numbers (T : Tx K mg) : mg "matter_numbers" = some (.ref (He.fAd K d_matter_numbers.at_)) := let ⟨_, X, G⟩ := T.X; He.glo_ok X G (T.c.fact 21 (f := .glo "matter_numbers") rfl)
theorem g_take_matter (T : Tx K mg) : mg "take_matter" = some (.ref (He.fAd K d_take_matter.at_)) := let ⟨_, X, G⟩ := T.X; He.glo_ok X G (T.c.fact 22 (f := .glo "take_matter") rfl)
theorem g_tree_numbers (T : Tx K mg) : mg "tree_numbers" = some (.ref (He.fAd K d_tree_numbers.at_)) := let ⟨_, X, G⟩ := T.X; He.glo_ok X G (T.c.fact 23 (f := .glo "tree_numbers") rfl)
theorem g_take_tree (T : Tx K mg) : mg "take_tree" = some (.ref (He.fAd K d_take_tree.at_)) := let ⟨_, X, G⟩ := T.X; He.glo_ok X G (T.c.fact 24 (f := .glo "take_tree") rfl)
theorem g_take_whole_tree (T : Tx K mg) : mg "take_whole_tree" = some (.ref (He.fAd K d_take_whole_tree.at_)) := let ⟨_, X, G⟩ := T.X; He.glo_ok X G (T.c.fact 25 (f := .glo "take_whole_tree") rfl)
theorem g_text_of (T : Tx K mg) : mg "text_of" = some (.ref (He.fAd K d_text_of.at_)) := let ⟨_, X, G⟩ := T.X; He.glo_ok X G (T.c.fact 26 (f := .glo "text_of") rfl)
theorem g_number_of (T : Tx K mg) : mg "number_of" = some (.ref (He.fAd K d_number_of.at_)) := let ⟨_, X, G⟩ := T.X; He.glo_ok X G (T.c.fact 27 (f := .glo "number_of") rfl)
theorem g_write_certificate (T : Tx K mg) : mg "write_certificate" = some (.ref (He.fAd K d_write_certificate.at_)) := let ⟨_, X, G⟩ := T.X; He.glo_ok X G (T.c.fact 28 (f := .glo "write_certificate") rfl)
theorem g_read_certificate (T : Tx K mg) : mg "read_certificate" = some (.ref (He.fAd K d_read_certificate.at_)) := let ⟨_, X, G⟩ := T.X; He.glo_ok X G (T.c.fact 29 (f := .glo "read_certificate") rfl)
theorem g_l_rows (T : Tx K mg) : mg "_law_rows" = some (.ref (He.fAd K d_l_rows.at_)) := let ⟨_, X, G⟩ := T.X; He.glo_ok X G (T.c.fact 30 (f := .glo "_law_rows") rfl)
theorem g_l_joint (T : Tx K mg) : mg "_law_joint" = some (.ref (He.fAd K d_l_joint.at_)) := let ⟨_, X, G⟩ := T.X; He.glo_ok X G (T.c.fact 31 (f := .glo "_law_joint") rfl)
theorem g_l_capsule (T : Tx K mg) : mg "_law_capsule" = some (.ref (He.fAd K d_l_capsule.at_)) := let ⟨_, X, G⟩ := T.X; He.glo_ok X G (T.c.fact 32 (f := .glo "_law_capsule") rfl)
theorem g_l_values (T : Tx K mg) : mg "_law_values" = some (.ref (He.fAd K d_l_values.at_)) := let ⟨_, X, G⟩ := T.X; He.glo_ok X G (T.c.fact 33 (f := .glo "_law_values") rfl)
theorem g_l_turned (T : Tx K mg) : mg "_law_turned" = some (.ref (He.fAd K d_l_turned.at_)) := let ⟨_, X, G⟩ := T.X; He.glo_ok X G (T.c.fact 34 (f := .glo "_law_turned") rfl)
theorem g_l_true (T : Tx K mg) : mg "_law_true" = some (.ref (He.fAd K d_l_true.at_)) := let ⟨_, X, G⟩ := T.X; He.glo_ok X G (T.c.fact 35 (f := .glo "_law_true") rfl)
theorem g_l_meant (T : Tx K mg) : mg "_law_meant" = some (.ref (He.fAd K d_l_meant.at_)) := let ⟨_, X, G⟩ := T.X; He.glo_ok X G (T.c.fact 36 (f := .glo "_law_meant") rfl)
theorem g_l_offsets (T : Tx K mg) : mg "_law_offsets" = some (.ref (He.fAd K d_l_offsets.at_)) := let ⟨_, X, G⟩ := T.X; He.glo_ok X G (T.c.fact 37 (f := .glo "_law_offsets") rfl)
theorem g_l_arm (T : Tx K mg) : mg "_law_arm" = some (.ref (He.fAd K d_l_arm.at_)) := let ⟨_, X, G⟩ := T.X; He.glo_ok X G (T.c.fact 38 (f := .glo "_law_arm") rfl)
theorem g_l_pairs (T : Tx K mg) : mg "_law_pairs" = some (.ref (He.fAd K d_l_pairs.at_)) := let ⟨_, X, G⟩ := T.X; He.glo_ok X G (T.c.fact 39 (f := .glo "_law_pairs") rfl)
theorem g_law (T : Tx K mg) : mg "law" = some (.ref (He.fAd K d_law.at_)) := let ⟨_, X, G⟩ := T.X; He.glo_ok X G (T.c.fact 40 (f := .glo "law") rfl)
theorem g_is_within (T : Tx K mg) : mg "is_within_joints" = some (.ref (He.fAd K d_is_within.at_)) := let ⟨_, X, G⟩ := T.X; He.glo_ok X G (T.c.fact 41 (f := .glo "is_within_joints") rfl)
theorem g_Joint (T : Tx K mg) : mg "Joint" = some (.ref (He.ga K "Joint")) := let ⟨_, X, G⟩ := T.X; He.glo_ok X G (T.c.fact 42 (f := .glo "Joint") rfl)
theorem g_Body (T : Tx K mg) : mg "Body" = some (.ref (He.ga K "Body")) := let ⟨_, X, G⟩ := T.X; He.glo_ok X G (T.c.fact 43 (f := .glo "Body") rfl)
theorem g_Capsule (T : Tx K mg) : mg "Capsule" = some (.ref (He.ga K "Capsule")) := let ⟨_, X, G⟩ := T.X; He.glo_ok X G (T.c.fact 44 (f := .glo "Capsule") rfl)
theorem g_Arm (T : Tx K mg) : mg "Arm" = some (.ref (He.ga K "Arm")) := let ⟨_, X, G⟩ := T.X; He.glo_ok X G (T.c.fact 45 (f := .glo "Arm") rfl)
theorem g_Move (T : Tx K mg) : mg "Move" = some (.ref (He.ga K "Move")) := let ⟨_, X, G⟩ := T.X; He.glo_ok X G (T.c.fact 46 (f := .glo "Move") rfl)
theorem g_Mover (T : Tx K mg) : mg "Mover" = some (.ref (He.ga K "Mover")) := let ⟨_, X, G⟩ := T.X; He.glo_ok X G (T.c.fact 47 (f := .glo "Mover") rfl)
theorem g_Matter (T : Tx K mg) : mg "Matter" = some (.ref (He.ga K "Matter")) := let ⟨_, X, G⟩ := T.X; He.glo_ok X G (T.c.fact 48 (f := .glo "Matter") rfl)
theorem g_Numbers (T : Tx K mg) : mg "Numbers" = some (.ref (He.ga K "Numbers")) := let ⟨_, X, G⟩ := T.X; He.glo_ok X G (T.c.fact 49 (f := .glo "Numbers") rfl)
theorem g_KINDS (T : Tx K mg) : mg "KINDS" = some (.ref (He.ga K "KINDS")) := let ⟨_, X, G⟩ := T.X; He.glo_ok X G (T.c.fact 50 (f := .glo "KINDS") rfl)
theorem g_HALVES (T : Tx K mg) : mg "HALVES" = some (.ref (He.ga K "HALVES")) := let ⟨_, X, G⟩ := T.X; He.glo_ok X G (T.c.fact 51 (f := .glo "HALVES") rfl)
theorem gf_abs (T : Tx K mg) : mg "abs" = none := let ⟨_, X, G⟩ := T.X; He.free_ok X G (T.c.fact 52 (f := .free "abs") rfl)
theorem gf_all (T : Tx K mg) : mg "all" = none := let ⟨_, X, G⟩ := T.X; He.free_ok X G (T.c.fact 53 (f := .free "all") rfl)
theorem gf_int (T : Tx K mg) : mg "int" = none := let ⟨_, X, G⟩ := T.X; He.free_ok X G (T.c.fact 54 (f := .free "int") rfl)
theorem gf_len (T : Tx K mg) : mg "len" = none := let ⟨_, X, G⟩ := T.X; He.free_ok X G (T.c.fact 55 (f := .free "len") rfl)
theorem gf_max (T : Tx K mg) : mg "max" = none := let ⟨_, X, G⟩ := T.X; He.free_ok X G (T.c.fact 56 (f := .free "max") rfl)
theorem gf_range (T : Tx K mg) : mg "range" = none := let ⟨_, X, G⟩ := T.X; He.free_ok X G (T.c.fact 57 (f := .free "range") rfl)
theorem gf_str (T : Tx K mg) : mg "str" = none := let ⟨_, X, G⟩ := T.X; He.free_ok X G (T.c.fact 58 (f := .free "str") rfl)
theorem gf_tuple (T : Tx K mg) : mg "tuple" = none := let ⟨_, X, G⟩ := T.X; He.free_ok X G (T.c.fact 59 (f := .free "tuple") rfl)
theorem gi_UNIT (T : Tx K mg) : ∃ t, mg "UNIT" = some (.int 1000000 t) := let ⟨_, X, G⟩ := T.X; He.int_ok X G (T.c.fact 60 (f := .int "UNIT" 1000000) rfl)
theorem gi_FAR (T : Tx K mg) : ∃ t, mg "FAR" = some (.int 10000000 t) := let ⟨_, X, G⟩ := T.X; He.int_ok X G (T.c.fact 61 (f := .int "FAR" 10000000) rfl)
theorem gi_STEEP (T : Tx K mg) : ∃ t, mg "STEEP" = some (.int 8000000 t) := let ⟨_, X, G⟩ := T.X; He.int_ok X G (T.c.fact 62 (f := .int "STEEP" 8000000) rfl)
theorem gi_LOOSE (T : Tx K mg) : ∃ t, mg "LOOSE" = some (.int 100000 t) := let ⟨_, X, G⟩ := T.X; He.int_ok X G (T.c.fact 63 (f := .int "LOOSE" 100000) rfl)
theorem gi_FAST (T : Tx K mg) : ∃ t, mg "FAST" = some (.int 1000000000 t) := let ⟨_, X, G⟩ := T.X; He.int_ok X G (T.c.fact 64 (f := .int "FAST" 1000000000) rfl)
theorem gi_HARD (T : Tx K mg) : ∃ t, mg "HARD" = some (.int 10000000000 t) := let ⟨_, X, G⟩ := T.X; He.int_ok X G (T.c.fact 65 (f := .int "HARD" 10000000000) rfl)
theorem gi_THICK (T : Tx K mg) : ∃ t, mg "THICK" = some (.int 1000000 t) := let ⟨_, X, G⟩ := T.X; He.int_ok X G (T.c.fact 66 (f := .int "THICK" 1000000) rfl)
theorem gi_MOST_JOINTS (T : Tx K mg) : ∃ t, mg "MOST_JOINTS" = some (.int 6 t) := let ⟨_, X, G⟩ := T.X; He.int_ok X G (T.c.fact 67 (f := .int "MOST_JOINTS" 6) rfl)
theorem gi_MOST_CAPSULES (T : Tx K mg) : ∃ t, mg "MOST_CAPSULES" = some (.int 8 t) := let ⟨_, X, G⟩ := T.X; He.int_ok X G (T.c.fact 68 (f := .int "MOST_CAPSULES" 8) rfl)
theorem gi_DEEPEST (T : Tx K mg) : ∃ t, mg "DEEPEST" = some (.int 20 t) := let ⟨_, X, G⟩ := T.X; He.int_ok X G (T.c.fact 69 (f := .int "DEEPEST" 20) rfl)
theorem gi_STEEPEST (T : Tx K mg) : ∃ t, mg "STEEPEST" = some (.int 1000 t) := let ⟨_, X, G⟩ := T.X; He.int_ok X G (T.c.fact 70 (f := .int "STEEPEST" 1000) rfl)
theorem gi_FARTHEST (T : Tx K mg) : ∃ t, mg "FARTHEST" = some (.int 100000000000 t) := let ⟨_, X, G⟩ := T.X; He.int_ok X G (T.c.fact 71 (f := .int "FARTHEST" 100000000000) rfl)
theorem gi_LONGEST (T : Tx K mg) : ∃ t, mg "LONGEST" = some (.int 24 t) := let ⟨_, X, G⟩ := T.X; He.int_ok X G (T.c.fact 72 (f := .int "LONGEST" 24) rfl)
theorem gs_CERTIFICATE (T : Tx K mg) : ∃ t, mg "CERTIFICATE" = some (.str "armwarrant certificate" t) := let ⟨_, X, G⟩ := T.X; He.str_ok X G (T.c.fact 73 (f := .str "CERTIFICATE" "armwarrant certificate") rfl)
theorem c_Joint (T : Tx K mg) : Cls K (He.ga K "Joint") := He.cls_ok (T.c.fact 74 (f := .cls "Joint") rfl)
theorem c_Body (T : Tx K mg) : Cls K (He.ga K "Body") := He.cls_ok (T.c.fact 75 (f := .cls "Body") rfl)
theorem c_Capsule (T : Tx K mg) : Cls K (He.ga K "Capsule") := He.cls_ok (T.c.fact 76 (f := .cls "Capsule") rfl)
theorem c_Arm (T : Tx K mg) : Cls K (He.ga K "Arm") := He.cls_ok (T.c.fact 77 (f := .cls "Arm") rfl)
theorem c_Move (T : Tx K mg) : Cls K (He.ga K "Move") := He.cls_ok (T.c.fact 78 (f := .cls "Move") rfl)
theorem c_Mover (T : Tx K mg) : Cls K (He.ga K "Mover") := He.cls_ok (T.c.fact 79 (f := .cls "Mover") rfl)
theorem c_Matter (T : Tx K mg) : Cls K (He.ga K "Matter") := He.cls_ok (T.c.fact 80 (f := .cls "Matter") rfl)
theorem c_Numbers (T : Tx K mg) : Cls K (He.ga K "Numbers") := He.cls_ok (T.c.fact 81 (f := .cls "Numbers") rfl)
theorem n_Joint_turns (T : Tx K mg) : NoAttr K (He.ga K "Joint") "turns" := He.noat_ok (T.c.fact 82 (f := .noat "Joint" "turns") rfl)
theorem n_Joint_axis (T : Tx K mg) : NoAttr K (He.ga K "Joint") "axis" := He.noat_ok (T.c.fact 83 (f := .noat "Joint" "axis") rfl)
theorem n_Joint_offset (T : Tx K mg) : NoAttr K (He.ga K "Joint") "offset" := He.noat_ok (T.c.fact 84 (f := .noat "Joint" "offset") rfl)
theorem n_Joint_least (T : Tx K mg) : NoAttr K (He.ga K "Joint") "least" := He.noat_ok (T.c.fact 85 (f := .noat "Joint" "least") rfl)
theorem n_Joint_most (T : Tx K mg) : NoAttr K (He.ga K "Joint") "most" := He.noat_ok (T.c.fact 86 (f := .noat "Joint" "most") rfl)
theorem n_Joint_box (T : Tx K mg) : NoAttr K (He.ga K "Joint") "box" := He.noat_ok (T.c.fact 87 (f := .noat "Joint" "box") rfl)
theorem n_Joint_error (T : Tx K mg) : NoAttr K (He.ga K "Joint") "error" := He.noat_ok (T.c.fact 88 (f := .noat "Joint" "error") rfl)
theorem n_Joint_speed (T : Tx K mg) : NoAttr K (He.ga K "Joint") "speed" := He.noat_ok (T.c.fact 89 (f := .noat "Joint" "speed") rfl)
theorem n_Joint_accel (T : Tx K mg) : NoAttr K (He.ga K "Joint") "accel" := He.noat_ok (T.c.fact 90 (f := .noat "Joint" "accel") rfl)
theorem n_Joint_brake (T : Tx K mg) : NoAttr K (He.ga K "Joint") "brake" := He.noat_ok (T.c.fact 91 (f := .noat "Joint" "brake") rfl)
theorem n_Body_first (T : Tx K mg) : NoAttr K (He.ga K "Body") "first" := He.noat_ok (T.c.fact 92 (f := .noat "Body" "first") rfl)
theorem n_Body_last (T : Tx K mg) : NoAttr K (He.ga K "Body") "last" := He.noat_ok (T.c.fact 93 (f := .noat "Body" "last") rfl)
theorem n_Body_radius (T : Tx K mg) : NoAttr K (He.ga K "Body") "radius" := He.noat_ok (T.c.fact 94 (f := .noat "Body" "radius") rfl)
theorem n_Capsule_link (T : Tx K mg) : NoAttr K (He.ga K "Capsule") "link" := He.noat_ok (T.c.fact 95 (f := .noat "Capsule" "link") rfl)
theorem n_Capsule_body (T : Tx K mg) : NoAttr K (He.ga K "Capsule") "body" := He.noat_ok (T.c.fact 96 (f := .noat "Capsule" "body") rfl)
theorem n_Arm_joints (T : Tx K mg) : NoAttr K (He.ga K "Arm") "joints" := He.noat_ok (T.c.fact 97 (f := .noat "Arm" "joints") rfl)
theorem n_Arm_capsules (T : Tx K mg) : NoAttr K (He.ga K "Arm") "capsules" := He.noat_ok (T.c.fact 98 (f := .noat "Arm" "capsules") rfl)
theorem n_Arm_beside (T : Tx K mg) : NoAttr K (He.ga K "Arm") "beside" := He.noat_ok (T.c.fact 99 (f := .noat "Arm" "beside") rfl)
theorem n_Move_first (T : Tx K mg) : NoAttr K (He.ga K "Move") "first" := He.noat_ok (T.c.fact 100 (f := .noat "Move" "first") rfl)
theorem n_Move_last (T : Tx K mg) : NoAttr K (He.ga K "Move") "last" := He.noat_ok (T.c.fact 101 (f := .noat "Move" "last") rfl)
theorem n_Mover_arm (T : Tx K mg) : NoAttr K (He.ga K "Mover") "arm" := He.noat_ok (T.c.fact 102 (f := .noat "Mover" "arm") rfl)
theorem n_Mover_move (T : Tx K mg) : NoAttr K (He.ga K "Mover") "move" := He.noat_ok (T.c.fact 103 (f := .noat "Mover" "move") rfl)
theorem n_Mover_held (T : Tx K mg) : NoAttr K (He.ga K "Mover") "held" := He.noat_ok (T.c.fact 104 (f := .noat "Mover" "held") rfl)
theorem n_Matter_kind (T : Tx K mg) : NoAttr K (He.ga K "Matter") "kind" := He.noat_ok (T.c.fact 105 (f := .noat "Matter" "kind") rfl)
theorem n_Matter_mover (T : Tx K mg) : NoAttr K (He.ga K "Matter") "mover" := He.noat_ok (T.c.fact 106 (f := .noat "Matter" "mover") rfl)
theorem n_Matter_other (T : Tx K mg) : NoAttr K (He.ga K "Matter") "other" := He.noat_ok (T.c.fact 107 (f := .noat "Matter" "other") rfl)
theorem n_Numbers_row (T : Tx K mg) : NoAttr K (He.ga K "Numbers") "row" := He.noat_ok (T.c.fact 108 (f := .noat "Numbers" "row") rfl)
theorem n_Numbers_taken (T : Tx K mg) : NoAttr K (He.ga K "Numbers") "taken" := He.noat_ok (T.c.fact 109 (f := .noat "Numbers" "taken") rfl)
theorem m_Arm_fits (T : Tx K mg) : Meth K (He.ga K "Arm") "fits" (He.fAd K d_Arm_fits.at_) := He.meth_ok (T.c.fact 110 (f := .meth "Arm" "fits") rfl)
theorem m_Move_middle (T : Tx K mg) : Meth K (He.ga K "Move") "middle" (He.fAd K d_Move_middle.at_) := He.meth_ok (T.c.fact 111 (f := .meth "Move" "middle") rfl)
theorem m_Move_halves (T : Tx K mg) : Meth K (He.ga K "Move") "halves" (He.fAd K d_Move_halves.at_) := He.meth_ok (T.c.fact 112 (f := .meth "Move" "halves") rfl)
theorem m_Mover_bodies (T : Tx K mg) : Meth K (He.ga K "Mover") "bodies" (He.fAd K d_Mover_bodies.at_) := He.meth_ok (T.c.fact 113 (f := .meth "Mover" "bodies") rfl)
theorem m_Mover_unknowns (T : Tx K mg) : Meth K (He.ga K "Mover") "unknowns" (He.fAd K d_Mover_unknowns.at_) := He.meth_ok (T.c.fact 114 (f := .meth "Mover" "unknowns") rfl)
theorem m_Matter_pairs (T : Tx K mg) : Meth K (He.ga K "Matter") "pairs" (He.fAd K d_Matter_pairs.at_) := He.meth_ok (T.c.fact 115 (f := .meth "Matter" "pairs") rfl)
theorem m_Numbers_take (T : Tx K mg) : Meth K (He.ga K "Numbers") "take" (He.fAd K d_Numbers_take.at_) := He.meth_ok (T.c.fact 116 (f := .meth "Numbers" "take") rfl)
theorem m_Numbers_take_within (T : Tx K mg) : Meth K (He.ga K "Numbers") "take_within" (He.fAd K d_Numbers_take_within.at_) := He.meth_ok (T.c.fact 117 (f := .meth "Numbers" "take_within") rfl)
theorem m_Numbers_take_size (T : Tx K mg) : Meth K (He.ga K "Numbers") "take_size" (He.fAd K d_Numbers_take_size.at_) := He.meth_ok (T.c.fact 118 (f := .meth "Numbers" "take_size") rfl)
theorem m_Numbers_take_vector (T : Tx K mg) : Meth K (He.ga K "Numbers") "take_vector" (He.fAd K d_Numbers_take_vector.at_) := He.meth_ok (T.c.fact 119 (f := .meth "Numbers" "take_vector") rfl)
theorem m_Numbers_finish (T : Tx K mg) : Meth K (He.ga K "Numbers") "finish" (He.fAd K d_Numbers_finish.at_) := He.meth_ok (T.c.fact 120 (f := .meth "Numbers" "finish") rfl)
theorem M_Joint (T : Tx K mg) : Mk K (He.ga K "Joint") (He.fAd K d_Joint_init.at_) := He.mkr_ok (T.c.fact 121 (f := .mkr "Joint") rfl)
theorem M_Body (T : Tx K mg) : Mk K (He.ga K "Body") (He.fAd K d_Body_init.at_) := He.mkr_ok (T.c.fact 122 (f := .mkr "Body") rfl)
theorem M_Capsule (T : Tx K mg) : Mk K (He.ga K "Capsule") (He.fAd K d_Capsule_init.at_) := He.mkr_ok (T.c.fact 123 (f := .mkr "Capsule") rfl)
theorem M_Arm (T : Tx K mg) : Mk K (He.ga K "Arm") (He.fAd K d_Arm_init.at_) := He.mkr_ok (T.c.fact 124 (f := .mkr "Arm") rfl)
theorem M_Move (T : Tx K mg) : Mk K (He.ga K "Move") (He.fAd K d_Move_init.at_) := He.mkr_ok (T.c.fact 125 (f := .mkr "Move") rfl)
theorem M_Mover (T : Tx K mg) : Mk K (He.ga K "Mover") (He.fAd K d_Mover_init.at_) := He.mkr_ok (T.c.fact 126 (f := .mkr "Mover") rfl)
theorem M_Matter (T : Tx K mg) : Mk K (He.ga K "Matter") (He.fAd K d_Matter_init.at_) := He.mkr_ok (T.c.fact 127 (f := .mkr "Matter") rfl)
theorem M_Numbers (T : Tx K mg) : Mk K (He.ga K "Numbers") (He.fAd K d_Numbers_init.at_) := He.mkr_ok (T.c.fact 128 (f := .mkr "Numbers") rfl)
noncomputable def fd_root_up (T : Tx K mg) : FuncData := (T.c.def_ 0 (d := d_root_up) rfl).choose
theorem F_root_up (T : Tx K mg) : FunD K d_root_up.name d_root_up.qual d_root_up.params d_root_up.body d_root_up.scope (d_root_up.dvs K) (d_root_up.kws K) (He.fAd K d_root_up.at_) (fd_root_up T) := (T.c.def_ 0 (d := d_root_up) rfl).choose_spec
theorem b_root_up (T : Tx K mg) : Binds K (fd_root_up T) ["number"] [] := (F_root_up T).bindsN fun _ _ _ _ _ _ us hl => match us, hl with | [_], _ => rfl
theorem sc_root_up : FnScope ["number", "root"] ["number"] (defScope s_root_up) := ⟨rfl, rfl, rfl, by decide +kernel, rfl, by decide +kernel, by decide +kernel⟩
noncomputable def fd_divide_up (T : Tx K mg) : FuncData := (T.c.def_ 1 (d := d_divide_up) rfl).choose
theorem F_divide_up (T : Tx K mg) : FunD K d_divide_up.name d_divide_up.qual d_divide_up.params d_divide_up.body d_divide_up.scope (d_divide_up.dvs K) (d_divide_up.kws K) (He.fAd K d_divide_up.at_) (fd_divide_up T) := (T.c.def_ 1 (d := d_divide_up) rfl).choose_spec
theorem b_divide_up (T : Tx K mg) : Binds K (fd_divide_up T) ["number", "divisor"] [] := (F_divide_up T).bindsN fun _ _ _ _ _ _ us hl => match us, hl with | [_, _], _ => rfl
theorem sc_divide_up : FnScope ["number", "divisor"] ["number", "divisor"] (defScope s_divide_up) := ⟨rfl, rfl, rfl, by decide +kernel, rfl, by decide +kernel, by decide +kernel⟩
noncomputable def fd_dot (T : Tx K mg) : FuncData := (T.c.def_ 2 (d := d_dot) rfl).choose
theorem F_dot (T : Tx K mg) : FunD K d_dot.name d_dot.qual d_dot.params d_dot.body d_dot.scope (d_dot.dvs K) (d_dot.kws K) (He.fAd K d_dot.at_) (fd_dot T) := (T.c.def_ 2 (d := d_dot) rfl).choose_spec
theorem b_dot (T : Tx K mg) : Binds K (fd_dot T) ["first", "second"] [] := (F_dot T).bindsN fun _ _ _ _ _ _ us hl => match us, hl with | [_, _], _ => rfl
theorem sc_dot : FnScope ["first", "second"] ["first", "second"] (defScope s_dot) := ⟨rfl, rfl, rfl, by decide +kernel, rfl, by decide +kernel, by decide +kernel⟩
noncomputable def fd_length_up (T : Tx K mg) : FuncData := (T.c.def_ 3 (d := d_length_up) rfl).choose
theorem F_length_up (T : Tx K mg) : FunD K d_length_up.name d_length_up.qual d_length_up.params d_length_up.body d_length_up.scope (d_length_up.dvs K) (d_length_up.kws K) (He.fAd K d_length_up.at_) (fd_length_up T) := (T.c.def_ 3 (d := d_length_up) rfl).choose_spec
theorem b_length_up (T : Tx K mg) : Binds K (fd_length_up T) ["vector"] [] := (F_length_up T).bindsN fun _ _ _ _ _ _ us hl => match us, hl with | [_], _ => rfl
theorem sc_length_up : FnScope ["vector"] ["vector"] (defScope s_length_up) := ⟨rfl, rfl, rfl, by decide +kernel, rfl, by decide +kernel, by decide +kernel⟩
noncomputable def fd_reduced (T : Tx K mg) : FuncData := (T.c.def_ 4 (d := d_reduced) rfl).choose
theorem F_reduced (T : Tx K mg) : FunD K d_reduced.name d_reduced.qual d_reduced.params d_reduced.body d_reduced.scope (d_reduced.dvs K) (d_reduced.kws K) (He.fAd K d_reduced.at_) (fd_reduced T) := (T.c.def_ 4 (d := d_reduced) rfl).choose_spec
theorem b_reduced (T : Tx K mg) : Binds K (fd_reduced T) ["place"] [] := (F_reduced T).bindsN fun _ _ _ _ _ _ us hl => match us, hl with | [_], _ => rfl
theorem sc_reduced : FnScope ["place", "common", "part"] ["place"] (defScope s_reduced) := ⟨rfl, rfl, rfl, by decide +kernel, rfl, by decide +kernel, by decide +kernel⟩
noncomputable def fd_turned (T : Tx K mg) : FuncData := (T.c.def_ 5 (d := d_turned) rfl).choose
theorem F_turned (T : Tx K mg) : FunD K d_turned.name d_turned.qual d_turned.params d_turned.body d_turned.scope (d_turned.dvs K) (d_turned.kws K) (He.fAd K d_turned.at_) (fd_turned T) := (T.c.def_ 5 (d := d_turned) rfl).choose_spec
theorem b_turned (T : Tx K mg) : Binds K (fd_turned T) ["place", "axis", "value"] [] := (F_turned T).bindsN fun _ _ _ _ _ _ us hl => match us, hl with | [_, _, _], _ => rfl
theorem sc_turned : FnScope ["place", "axis", "value", "over", "under", "straight", "across", "whole", "one", "two", "out"] ["place", "axis", "value"] (defScope s_turned) := ⟨rfl, rfl, rfl, by decide +kernel, rfl, by decide +kernel, by decide +kernel⟩
noncomputable def fd_shifted (T : Tx K mg) : FuncData := (T.c.def_ 6 (d := d_shifted) rfl).choose
theorem F_shifted (T : Tx K mg) : FunD K d_shifted.name d_shifted.qual d_shifted.params d_shifted.body d_shifted.scope (d_shifted.dvs K) (d_shifted.kws K) (He.fAd K d_shifted.at_) (fd_shifted T) := (T.c.def_ 6 (d := d_shifted) rfl).choose_spec
theorem b_shifted (T : Tx K mg) : Binds K (fd_shifted T) ["place", "axis", "value"] [] := (F_shifted T).bindsN fun _ _ _ _ _ _ us hl => match us, hl with | [_, _, _], _ => rfl
theorem sc_shifted : FnScope ["place", "axis", "value", "over", "under", "out"] ["place", "axis", "value"] (defScope s_shifted) := ⟨rfl, rfl, rfl, by decide +kernel, rfl, by decide +kernel, by decide +kernel⟩
noncomputable def fd_added (T : Tx K mg) : FuncData := (T.c.def_ 7 (d := d_added) rfl).choose
theorem F_added (T : Tx K mg) : FunD K d_added.name d_added.qual d_added.params d_added.body d_added.scope (d_added.dvs K) (d_added.kws K) (He.fAd K d_added.at_) (fd_added T) := (T.c.def_ 7 (d := d_added) rfl).choose_spec
theorem b_added (T : Tx K mg) : Binds K (fd_added T) ["place", "other"] [] := (F_added T).bindsN fun _ _ _ _ _ _ us hl => match us, hl with | [_, _], _ => rfl
theorem sc_added : FnScope ["place", "other", "sums", "k"] ["place", "other"] (defScope s_added) := ⟨rfl, rfl, rfl, by decide +kernel, rfl, by decide +kernel, by decide +kernel⟩
noncomputable def fd_true_place (T : Tx K mg) : FuncData := (T.c.def_ 8 (d := d_true_place) rfl).choose
theorem F_true_place (T : Tx K mg) : FunD K d_true_place.name d_true_place.qual d_true_place.params d_true_place.body d_true_place.scope (d_true_place.dvs K) (d_true_place.kws K) (He.fAd K d_true_place.at_) (fd_true_place T) := (T.c.def_ 8 (d := d_true_place) rfl).choose_spec
theorem b_true_place (T : Tx K mg) : Binds K (fd_true_place T) ["arm", "values", "offsets", "link", "point"] [] := (F_true_place T).bindsN fun _ _ _ _ _ _ us hl => match us, hl with | [_, _, _, _, _], _ => rfl
theorem sc_true_place : FnScope ["arm", "values", "offsets", "link", "point", "place", "k", "joint", "over", "under"] ["arm", "values", "offsets", "link", "point"] (defScope s_true_place) := ⟨rfl, rfl, rfl, by decide +kernel, rfl, by decide +kernel, by decide +kernel⟩
noncomputable def fd_spot (T : Tx K mg) : FuncData := (T.c.def_ 9 (d := d_spot) rfl).choose
theorem F_spot (T : Tx K mg) : FunD K d_spot.name d_spot.qual d_spot.params d_spot.body d_spot.scope (d_spot.dvs K) (d_spot.kws K) (He.fAd K d_spot.at_) (fd_spot T) := (T.c.def_ 9 (d := d_spot) rfl).choose_spec
theorem b_spot (T : Tx K mg) : Binds K (fd_spot T) ["arm", "row", "link", "point"] [] := (F_spot T).bindsN fun _ _ _ _ _ _ us hl => match us, hl with | [_, _, _, _], _ => rfl
theorem sc_spot : FnScope ["arm", "row", "link", "point", "offsets", "place", "joint", "value"] ["arm", "row", "link", "point"] (defScope s_spot) := ⟨rfl, rfl, rfl, by decide +kernel, rfl, by decide +kernel, by decide +kernel⟩
noncomputable def fd_unknown (T : Tx K mg) : FuncData := (T.c.def_ 10 (d := d_unknown) rfl).choose
theorem F_unknown (T : Tx K mg) : FunD K d_unknown.name d_unknown.qual d_unknown.params d_unknown.body d_unknown.scope (d_unknown.dvs K) (d_unknown.kws K) (He.fAd K d_unknown.at_) (fd_unknown T) := (T.c.def_ 10 (d := d_unknown) rfl).choose_spec
theorem b_unknown (T : Tx K mg) : Binds K (fd_unknown T) ["arm", "halves", "link", "body"] [] := (F_unknown T).bindsN fun _ _ _ _ _ _ us hl => match us, hl with | [_, _, _, _], _ => rfl
theorem sc_unknown : FnScope ["arm", "halves", "link", "body", "apart", "lever", "k", "joint", "loose"] ["arm", "halves", "link", "body"] (defScope s_unknown) := ⟨rfl, rfl, rfl, by decide +kernel, rfl, by decide +kernel, by decide +kernel⟩
noncomputable def fd_is_within (T : Tx K mg) : FuncData := (T.c.def_ 11 (d := d_is_within) rfl).choose
theorem F_is_within (T : Tx K mg) : FunD K d_is_within.name d_is_within.qual d_is_within.params d_is_within.body d_is_within.scope (d_is_within.dvs K) (d_is_within.kws K) (He.fAd K d_is_within.at_) (fd_is_within T) := (T.c.def_ 11 (d := d_is_within) rfl).choose_spec
theorem b_is_within (T : Tx K mg) : Binds K (fd_is_within T) ["vector", "most"] [] := (F_is_within T).bindsN fun _ _ _ _ _ _ us hl => match us, hl with | [_, _], _ => rfl
theorem sc_is_within : FnScope ["vector", "most"] ["vector", "most"] (defScope s_is_within) := ⟨rfl, rfl, rfl, by decide +kernel, rfl, by decide +kernel, by decide +kernel⟩
noncomputable def fd_Joint_init (T : Tx K mg) : FuncData := (T.c.def_ 12 (d := d_Joint_init) rfl).choose
theorem F_Joint_init (T : Tx K mg) : FunD K d_Joint_init.name d_Joint_init.qual d_Joint_init.params d_Joint_init.body d_Joint_init.scope (d_Joint_init.dvs K) (d_Joint_init.kws K) (He.fAd K d_Joint_init.at_) (fd_Joint_init T) := (T.c.def_ 12 (d := d_Joint_init) rfl).choose_spec
theorem sc_Joint_init : FnScope ["self", "turns", "axis", "offset", "least", "most", "box", "error", "speed", "accel", "brake", "bound"] ["self", "turns", "axis", "offset", "least", "most", "box", "error", "speed", "accel", "brake"] (defScope s_Joint_init) := ⟨rfl, rfl, rfl, by decide +kernel, rfl, by decide +kernel, by decide +kernel⟩
noncomputable def fd_Body_init (T : Tx K mg) : FuncData := (T.c.def_ 13 (d := d_Body_init) rfl).choose
theorem F_Body_init (T : Tx K mg) : FunD K d_Body_init.name d_Body_init.qual d_Body_init.params d_Body_init.body d_Body_init.scope (d_Body_init.dvs K) (d_Body_init.kws K) (He.fAd K d_Body_init.at_) (fd_Body_init T) := (T.c.def_ 13 (d := d_Body_init) rfl).choose_spec
theorem b_Body_init (T : Tx K mg) : Binds K (fd_Body_init T) ["self", "first", "last", "radius"] [] := (F_Body_init T).bindsN fun _ _ _ _ _ _ us hl => match us, hl with | [_, _, _, _], _ => rfl
theorem sc_Body_init : FnScope ["self", "first", "last", "radius"] ["self", "first", "last", "radius"] (defScope s_Body_init) := ⟨rfl, rfl, rfl, by decide +kernel, rfl, by decide +kernel, by decide +kernel⟩
noncomputable def fd_Capsule_init (T : Tx K mg) : FuncData := (T.c.def_ 14 (d := d_Capsule_init) rfl).choose
theorem F_Capsule_init (T : Tx K mg) : FunD K d_Capsule_init.name d_Capsule_init.qual d_Capsule_init.params d_Capsule_init.body d_Capsule_init.scope (d_Capsule_init.dvs K) (d_Capsule_init.kws K) (He.fAd K d_Capsule_init.at_) (fd_Capsule_init T) := (T.c.def_ 14 (d := d_Capsule_init) rfl).choose_spec
theorem b_Capsule_init (T : Tx K mg) : Binds K (fd_Capsule_init T) ["self", "link", "body"] [] := (F_Capsule_init T).bindsN fun _ _ _ _ _ _ us hl => match us, hl with | [_, _, _], _ => rfl
theorem sc_Capsule_init : FnScope ["self", "link", "body"] ["self", "link", "body"] (defScope s_Capsule_init) := ⟨rfl, rfl, rfl, by decide +kernel, rfl, by decide +kernel, by decide +kernel⟩
noncomputable def fd_Arm_init (T : Tx K mg) : FuncData := (T.c.def_ 15 (d := d_Arm_init) rfl).choose
theorem F_Arm_init (T : Tx K mg) : FunD K d_Arm_init.name d_Arm_init.qual d_Arm_init.params d_Arm_init.body d_Arm_init.scope (d_Arm_init.dvs K) (d_Arm_init.kws K) (He.fAd K d_Arm_init.at_) (fd_Arm_init T) := (T.c.def_ 15 (d := d_Arm_init) rfl).choose_spec
theorem sc_Arm_init : FnScope ["self", "joints", "capsules", "beside", "capsule", "pair"] ["self", "joints", "capsules", "beside"] (defScope s_Arm_init) := ⟨rfl, rfl, rfl, by decide +kernel, rfl, by decide +kernel, by decide +kernel⟩
noncomputable def fd_Arm_fits (T : Tx K mg) : FuncData := (T.c.def_ 16 (d := d_Arm_fits) rfl).choose
theorem F_Arm_fits (T : Tx K mg) : FunD K d_Arm_fits.name d_Arm_fits.qual d_Arm_fits.params d_Arm_fits.body d_Arm_fits.scope (d_Arm_fits.dvs K) (d_Arm_fits.kws K) (He.fAd K d_Arm_fits.at_) (fd_Arm_fits T) := (T.c.def_ 16 (d := d_Arm_fits) rfl).choose_spec
theorem b_Arm_fits (T : Tx K mg) : Binds K (fd_Arm_fits T) ["self", "row"] [] := (F_Arm_fits T).bindsN fun _ _ _ _ _ _ us hl => match us, hl with | [_, _], _ => rfl
theorem sc_Arm_fits : FnScope ["self", "row", "k"] ["self", "row"] (defScope s_Arm_fits) := ⟨rfl, rfl, rfl, by decide +kernel, rfl, by decide +kernel, by decide +kernel⟩
noncomputable def fd_Move_init (T : Tx K mg) : FuncData := (T.c.def_ 17 (d := d_Move_init) rfl).choose
theorem F_Move_init (T : Tx K mg) : FunD K d_Move_init.name d_Move_init.qual d_Move_init.params d_Move_init.body d_Move_init.scope (d_Move_init.dvs K) (d_Move_init.kws K) (He.fAd K d_Move_init.at_) (fd_Move_init T) := (T.c.def_ 17 (d := d_Move_init) rfl).choose_spec
theorem b_Move_init (T : Tx K mg) : Binds K (fd_Move_init T) ["self", "arm", "first", "last"] [] := (F_Move_init T).bindsN fun _ _ _ _ _ _ us hl => match us, hl with | [_, _, _, _], _ => rfl
theorem sc_Move_init : FnScope ["self", "arm", "first", "last"] ["self", "arm", "first", "last"] (defScope s_Move_init) := ⟨rfl, rfl, rfl, by decide +kernel, rfl, by decide +kernel, by decide +kernel⟩
noncomputable def fd_Move_middle (T : Tx K mg) : FuncData := (T.c.def_ 18 (d := d_Move_middle) rfl).choose
theorem F_Move_middle (T : Tx K mg) : FunD K d_Move_middle.name d_Move_middle.qual d_Move_middle.params d_Move_middle.body d_Move_middle.scope (d_Move_middle.dvs K) (d_Move_middle.kws K) (He.fAd K d_Move_middle.at_) (fd_Move_middle T) := (T.c.def_ 18 (d := d_Move_middle) rfl).choose_spec
theorem b_Move_middle (T : Tx K mg) : Binds K (fd_Move_middle T) ["self", "part"] [] := (F_Move_middle T).bindsN fun _ _ _ _ _ _ us hl => match us, hl with | [_, _], _ => rfl
theorem sc_Move_middle : FnScope ["self", "part", "depth", "at", "row", "k", "way"] ["self", "part"] (defScope s_Move_middle) := ⟨rfl, rfl, rfl, by decide +kernel, rfl, by decide +kernel, by decide +kernel⟩
noncomputable def fd_Move_halves (T : Tx K mg) : FuncData := (T.c.def_ 19 (d := d_Move_halves) rfl).choose
theorem F_Move_halves (T : Tx K mg) : FunD K d_Move_halves.name d_Move_halves.qual d_Move_halves.params d_Move_halves.body d_Move_halves.scope (d_Move_halves.dvs K) (d_Move_halves.kws K) (He.fAd K d_Move_halves.at_) (fd_Move_halves T) := (T.c.def_ 19 (d := d_Move_halves) rfl).choose_spec
theorem b_Move_halves (T : Tx K mg) : Binds K (fd_Move_halves T) ["self", "depth"] [] := (F_Move_halves T).bindsN fun _ _ _ _ _ _ us hl => match us, hl with | [_, _], _ => rfl
theorem sc_Move_halves : FnScope ["self", "depth", "row", "k", "far"] ["self", "depth"] (defScope s_Move_halves) := ⟨rfl, rfl, rfl, by decide +kernel, rfl, by decide +kernel, by decide +kernel⟩
noncomputable def fd_Mover_init (T : Tx K mg) : FuncData := (T.c.def_ 20 (d := d_Mover_init) rfl).choose
theorem F_Mover_init (T : Tx K mg) : FunD K d_Mover_init.name d_Mover_init.qual d_Mover_init.params d_Mover_init.body d_Mover_init.scope (d_Mover_init.dvs K) (d_Mover_init.kws K) (He.fAd K d_Mover_init.at_) (fd_Mover_init T) := (T.c.def_ 20 (d := d_Mover_init) rfl).choose_spec
theorem sc_Mover_init : FnScope ["self", "arm", "move", "held"] ["self", "arm", "move", "held"] (defScope s_Mover_init) := ⟨rfl, rfl, rfl, by decide +kernel, rfl, by decide +kernel, by decide +kernel⟩
noncomputable def fd_Mover_bodies (T : Tx K mg) : FuncData := (T.c.def_ 21 (d := d_Mover_bodies) rfl).choose
theorem F_Mover_bodies (T : Tx K mg) : FunD K d_Mover_bodies.name d_Mover_bodies.qual d_Mover_bodies.params d_Mover_bodies.body d_Mover_bodies.scope (d_Mover_bodies.dvs K) (d_Mover_bodies.kws K) (He.fAd K d_Mover_bodies.at_) (fd_Mover_bodies T) := (T.c.def_ 21 (d := d_Mover_bodies) rfl).choose_spec
theorem b_Mover_bodies (T : Tx K mg) : Binds K (fd_Mover_bodies T) ["self"] [] := (F_Mover_bodies T).bindsN fun _ _ _ _ _ _ us hl => match us, hl with | [_], _ => rfl
theorem sc_Mover_bodies : FnScope ["self", "row", "body", "capsule"] ["self"] (defScope s_Mover_bodies) := ⟨rfl, rfl, rfl, by decide +kernel, rfl, by decide +kernel, by decide +kernel⟩
noncomputable def fd_Mover_unknowns (T : Tx K mg) : FuncData := (T.c.def_ 22 (d := d_Mover_unknowns) rfl).choose
theorem F_Mover_unknowns (T : Tx K mg) : FunD K d_Mover_unknowns.name d_Mover_unknowns.qual d_Mover_unknowns.params d_Mover_unknowns.body d_Mover_unknowns.scope (d_Mover_unknowns.dvs K) (d_Mover_unknowns.kws K) (He.fAd K d_Mover_unknowns.at_) (fd_Mover_unknowns T) := (T.c.def_ 22 (d := d_Mover_unknowns) rfl).choose_spec
theorem b_Mover_unknowns (T : Tx K mg) : Binds K (fd_Mover_unknowns T) ["self", "halves"] [] := (F_Mover_unknowns T).bindsN fun _ _ _ _ _ _ us hl => match us, hl with | [_, _], _ => rfl
theorem sc_Mover_unknowns : FnScope ["self", "halves", "link", "body"] ["self", "halves"] (defScope s_Mover_unknowns) := ⟨rfl, rfl, rfl, by decide +kernel, rfl, by decide +kernel, by decide +kernel⟩
noncomputable def fd_Matter_init (T : Tx K mg) : FuncData := (T.c.def_ 23 (d := d_Matter_init) rfl).choose
theorem F_Matter_init (T : Tx K mg) : FunD K d_Matter_init.name d_Matter_init.qual d_Matter_init.params d_Matter_init.body d_Matter_init.scope (d_Matter_init.dvs K) (d_Matter_init.kws K) (He.fAd K d_Matter_init.at_) (fd_Matter_init T) := (T.c.def_ 23 (d := d_Matter_init) rfl).choose_spec
theorem sc_Matter_init : FnScope ["self", "kind", "mover", "other"] ["self", "kind", "mover", "other"] (defScope s_Matter_init) := ⟨rfl, rfl, rfl, by decide +kernel, rfl, by decide +kernel, by decide +kernel⟩
noncomputable def fd_Matter_pairs (T : Tx K mg) : FuncData := (T.c.def_ 24 (d := d_Matter_pairs) rfl).choose
theorem F_Matter_pairs (T : Tx K mg) : FunD K d_Matter_pairs.name d_Matter_pairs.qual d_Matter_pairs.params d_Matter_pairs.body d_Matter_pairs.scope (d_Matter_pairs.dvs K) (d_Matter_pairs.kws K) (He.fAd K d_Matter_pairs.at_) (fd_Matter_pairs T) := (T.c.def_ 24 (d := d_Matter_pairs) rfl).choose_spec
theorem b_Matter_pairs (T : Tx K mg) : Binds K (fd_Matter_pairs T) ["self"] [] := (F_Matter_pairs T).bindsN fun _ _ _ _ _ _ us hl => match us, hl with | [_], _ => rfl
theorem sc_Matter_pairs : FnScope ["self", "many", "k", "j", "links", "row", "link", "body"] ["self"] (defScope s_Matter_pairs) := ⟨rfl, rfl, rfl, by decide +kernel, rfl, by decide +kernel, by decide +kernel⟩
noncomputable def fd_body_numbers (T : Tx K mg) : FuncData := (T.c.def_ 25 (d := d_body_numbers) rfl).choose
theorem F_body_numbers (T : Tx K mg) : FunD K d_body_numbers.name d_body_numbers.qual d_body_numbers.params d_body_numbers.body d_body_numbers.scope (d_body_numbers.dvs K) (d_body_numbers.kws K) (He.fAd K d_body_numbers.at_) (fd_body_numbers T) := (T.c.def_ 25 (d := d_body_numbers) rfl).choose_spec
theorem b_body_numbers (T : Tx K mg) : Binds K (fd_body_numbers T) ["body"] [] := (F_body_numbers T).bindsN fun _ _ _ _ _ _ us hl => match us, hl with | [_], _ => rfl
theorem sc_body_numbers : FnScope ["body"] ["body"] (defScope s_body_numbers) := ⟨rfl, rfl, rfl, by decide +kernel, rfl, by decide +kernel, by decide +kernel⟩
noncomputable def fd_take_body (T : Tx K mg) : FuncData := (T.c.def_ 26 (d := d_take_body) rfl).choose
theorem F_take_body (T : Tx K mg) : FunD K d_take_body.name d_take_body.qual d_take_body.params d_take_body.body d_take_body.scope (d_take_body.dvs K) (d_take_body.kws K) (He.fAd K d_take_body.at_) (fd_take_body T) := (T.c.def_ 26 (d := d_take_body) rfl).choose_spec
theorem b_take_body (T : Tx K mg) : Binds K (fd_take_body T) ["numbers"] [] := (F_take_body T).bindsN fun _ _ _ _ _ _ us hl => match us, hl with | [_], _ => rfl
theorem sc_take_body : FnScope ["numbers", "first", "last"] ["numbers"] (defScope s_take_body) := ⟨rfl, rfl, rfl, by decide +kernel, rfl, by decide +kernel, by decide +kernel⟩
noncomputable def fd_joint_numbers (T : Tx K mg) : FuncData := (T.c.def_ 27 (d := d_joint_numbers) rfl).choose
theorem F_joint_numbers (T : Tx K mg) : FunD K d_joint_numbers.name d_joint_numbers.qual d_joint_numbers.params d_joint_numbers.body d_joint_numbers.scope (d_joint_numbers.dvs K) (d_joint_numbers.kws K) (He.fAd K d_joint_numbers.at_) (fd_joint_numbers T) := (T.c.def_ 27 (d := d_joint_numbers) rfl).choose_spec
theorem b_joint_numbers (T : Tx K mg) : Binds K (fd_joint_numbers T) ["joint"] [] := (F_joint_numbers T).bindsN fun _ _ _ _ _ _ us hl => match us, hl with | [_], _ => rfl
theorem sc_joint_numbers : FnScope ["joint", "row"] ["joint"] (defScope s_joint_numbers) := ⟨rfl, rfl, rfl, by decide +kernel, rfl, by decide +kernel, by decide +kernel⟩
noncomputable def fd_take_joint (T : Tx K mg) : FuncData := (T.c.def_ 28 (d := d_take_joint) rfl).choose
theorem F_take_joint (T : Tx K mg) : FunD K d_take_joint.name d_take_joint.qual d_take_joint.params d_take_joint.body d_take_joint.scope (d_take_joint.dvs K) (d_take_joint.kws K) (He.fAd K d_take_joint.at_) (fd_take_joint T) := (T.c.def_ 28 (d := d_take_joint) rfl).choose_spec
theorem b_take_joint (T : Tx K mg) : Binds K (fd_take_joint T) ["numbers"] [] := (F_take_joint T).bindsN fun _ _ _ _ _ _ us hl => match us, hl with | [_], _ => rfl
theorem sc_take_joint : FnScope ["numbers", "turns", "axis", "offset", "row", "least", "most", "box", "error", "speed", "accel", "brake", "_"] ["numbers"] (defScope s_take_joint) := ⟨rfl, rfl, rfl, by decide +kernel, rfl, by decide +kernel, by decide +kernel⟩
noncomputable def fd_arm_numbers (T : Tx K mg) : FuncData := (T.c.def_ 29 (d := d_arm_numbers) rfl).choose
theorem F_arm_numbers (T : Tx K mg) : FunD K d_arm_numbers.name d_arm_numbers.qual d_arm_numbers.params d_arm_numbers.body d_arm_numbers.scope (d_arm_numbers.dvs K) (d_arm_numbers.kws K) (He.fAd K d_arm_numbers.at_) (fd_arm_numbers T) := (T.c.def_ 29 (d := d_arm_numbers) rfl).choose_spec
theorem b_arm_numbers (T : Tx K mg) : Binds K (fd_arm_numbers T) ["arm"] [] := (F_arm_numbers T).bindsN fun _ _ _ _ _ _ us hl => match us, hl with | [_], _ => rfl
theorem sc_arm_numbers : FnScope ["arm", "row", "joint", "capsule", "one", "two"] ["arm"] (defScope s_arm_numbers) := ⟨rfl, rfl, rfl, by decide +kernel, rfl, by decide +kernel, by decide +kernel⟩
noncomputable def fd_take_capsule (T : Tx K mg) : FuncData := (T.c.def_ 30 (d := d_take_capsule) rfl).choose
theorem F_take_capsule (T : Tx K mg) : FunD K d_take_capsule.name d_take_capsule.qual d_take_capsule.params d_take_capsule.body d_take_capsule.scope (d_take_capsule.dvs K) (d_take_capsule.kws K) (He.fAd K d_take_capsule.at_) (fd_take_capsule T) := (T.c.def_ 30 (d := d_take_capsule) rfl).choose_spec
theorem b_take_capsule (T : Tx K mg) : Binds K (fd_take_capsule T) ["numbers"] [] := (F_take_capsule T).bindsN fun _ _ _ _ _ _ us hl => match us, hl with | [_], _ => rfl
theorem sc_take_capsule : FnScope ["numbers", "link"] ["numbers"] (defScope s_take_capsule) := ⟨rfl, rfl, rfl, by decide +kernel, rfl, by decide +kernel, by decide +kernel⟩
noncomputable def fd_take_arm (T : Tx K mg) : FuncData := (T.c.def_ 31 (d := d_take_arm) rfl).choose
theorem F_take_arm (T : Tx K mg) : FunD K d_take_arm.name d_take_arm.qual d_take_arm.params d_take_arm.body d_take_arm.scope (d_take_arm.dvs K) (d_take_arm.kws K) (He.fAd K d_take_arm.at_) (fd_take_arm T) := (T.c.def_ 31 (d := d_take_arm) rfl).choose_spec
theorem b_take_arm (T : Tx K mg) : Binds K (fd_take_arm T) ["numbers"] [] := (F_take_arm T).bindsN fun _ _ _ _ _ _ us hl => match us, hl with | [_], _ => rfl
theorem sc_take_arm : FnScope ["numbers", "joints", "capsules", "beside", "_"] ["numbers"] (defScope s_take_arm) := ⟨rfl, rfl, rfl, by decide +kernel, rfl, by decide +kernel, by decide +kernel⟩
noncomputable def fd_mover_numbers (T : Tx K mg) : FuncData := (T.c.def_ 32 (d := d_mover_numbers) rfl).choose
theorem F_mover_numbers (T : Tx K mg) : FunD K d_mover_numbers.name d_mover_numbers.qual d_mover_numbers.params d_mover_numbers.body d_mover_numbers.scope (d_mover_numbers.dvs K) (d_mover_numbers.kws K) (He.fAd K d_mover_numbers.at_) (fd_mover_numbers T) := (T.c.def_ 32 (d := d_mover_numbers) rfl).choose_spec
theorem b_mover_numbers (T : Tx K mg) : Binds K (fd_mover_numbers T) ["mover"] [] := (F_mover_numbers T).bindsN fun _ _ _ _ _ _ us hl => match us, hl with | [_], _ => rfl
theorem sc_mover_numbers : FnScope ["mover", "row", "body"] ["mover"] (defScope s_mover_numbers) := ⟨rfl, rfl, rfl, by decide +kernel, rfl, by decide +kernel, by decide +kernel⟩
noncomputable def fd_take_row (T : Tx K mg) : FuncData := (T.c.def_ 33 (d := d_take_row) rfl).choose
theorem F_take_row (T : Tx K mg) : FunD K d_take_row.name d_take_row.qual d_take_row.params d_take_row.body d_take_row.scope (d_take_row.dvs K) (d_take_row.kws K) (He.fAd K d_take_row.at_) (fd_take_row T) := (T.c.def_ 33 (d := d_take_row) rfl).choose_spec
theorem b_take_row (T : Tx K mg) : Binds K (fd_take_row T) ["numbers", "many"] [] := (F_take_row T).bindsN fun _ _ _ _ _ _ us hl => match us, hl with | [_, _], _ => rfl
theorem sc_take_row : FnScope ["numbers", "many", "_"] ["numbers", "many"] (defScope s_take_row) := ⟨rfl, rfl, rfl, by decide +kernel, rfl, by decide +kernel, by decide +kernel⟩
noncomputable def fd_take_mover (T : Tx K mg) : FuncData := (T.c.def_ 34 (d := d_take_mover) rfl).choose
theorem F_take_mover (T : Tx K mg) : FunD K d_take_mover.name d_take_mover.qual d_take_mover.params d_take_mover.body d_take_mover.scope (d_take_mover.dvs K) (d_take_mover.kws K) (He.fAd K d_take_mover.at_) (fd_take_mover T) := (T.c.def_ 34 (d := d_take_mover) rfl).choose_spec
theorem b_take_mover (T : Tx K mg) : Binds K (fd_take_mover T) ["numbers"] [] := (F_take_mover T).bindsN fun _ _ _ _ _ _ us hl => match us, hl with | [_], _ => rfl
theorem sc_take_mover : FnScope ["numbers", "arm", "first", "last", "held", "_"] ["numbers"] (defScope s_take_mover) := ⟨rfl, rfl, rfl, by decide +kernel, rfl, by decide +kernel, by decide +kernel⟩
noncomputable def fd_matter_numbers (T : Tx K mg) : FuncData := (T.c.def_ 35 (d := d_matter_numbers) rfl).choose
theorem F_matter_numbers (T : Tx K mg) : FunD K d_matter_numbers.name d_matter_numbers.qual d_matter_numbers.params d_matter_numbers.body d_matter_numbers.scope (d_matter_numbers.dvs K) (d_matter_numbers.kws K) (He.fAd K d_matter_numbers.at_) (fd_matter_numbers T) := (T.c.def_ 35 (d := d_matter_numbers) rfl).choose_spec
theorem b_matter_numbers (T : Tx K mg) : Binds K (fd_matter_numbers T) ["matter"] [] := (F_matter_numbers T).bindsN fun _ _ _ _ _ _ us hl => match us, hl with | [_], _ => rfl
theorem sc_matter_numbers : FnScope ["matter", "row"] ["matter"] (defScope s_matter_numbers) := ⟨rfl, rfl, rfl, by decide +kernel, rfl, by decide +kernel, by decide +kernel⟩
noncomputable def fd_take_matter (T : Tx K mg) : FuncData := (T.c.def_ 36 (d := d_take_matter) rfl).choose
theorem F_take_matter (T : Tx K mg) : FunD K d_take_matter.name d_take_matter.qual d_take_matter.params d_take_matter.body d_take_matter.scope (d_take_matter.dvs K) (d_take_matter.kws K) (He.fAd K d_take_matter.at_) (fd_take_matter T) := (T.c.def_ 36 (d := d_take_matter) rfl).choose_spec
theorem b_take_matter (T : Tx K mg) : Binds K (fd_take_matter T) ["numbers"] [] := (F_take_matter T).bindsN fun _ _ _ _ _ _ us hl => match us, hl with | [_], _ => rfl
theorem sc_take_matter : FnScope ["numbers", "kind", "mover"] ["numbers"] (defScope s_take_matter) := ⟨rfl, rfl, rfl, by decide +kernel, rfl, by decide +kernel, by decide +kernel⟩
noncomputable def fd_tree_numbers (T : Tx K mg) : FuncData := (T.c.def_ 37 (d := d_tree_numbers) rfl).choose
theorem F_tree_numbers (T : Tx K mg) : FunD K d_tree_numbers.name d_tree_numbers.qual d_tree_numbers.params d_tree_numbers.body d_tree_numbers.scope (d_tree_numbers.dvs K) (d_tree_numbers.kws K) (He.fAd K d_tree_numbers.at_) (fd_tree_numbers T) := (T.c.def_ 37 (d := d_tree_numbers) rfl).choose_spec
theorem b_tree_numbers (T : Tx K mg) : Binds K (fd_tree_numbers T) ["tree"] [] := (F_tree_numbers T).bindsN fun _ _ _ _ _ _ us hl => match us, hl with | [_], _ => rfl
theorem sc_tree_numbers : FnScope ["tree", "row", "way"] ["tree"] (defScope s_tree_numbers) := ⟨rfl, rfl, rfl, by decide +kernel, rfl, by decide +kernel, by decide +kernel⟩
noncomputable def fd_take_tree (T : Tx K mg) : FuncData := (T.c.def_ 38 (d := d_take_tree) rfl).choose
theorem F_take_tree (T : Tx K mg) : FunD K d_take_tree.name d_take_tree.qual d_take_tree.params d_take_tree.body d_take_tree.scope (d_take_tree.dvs K) (d_take_tree.kws K) (He.fAd K d_take_tree.at_) (fd_take_tree T) := (T.c.def_ 38 (d := d_take_tree) rfl).choose_spec
theorem b_take_tree (T : Tx K mg) : Binds K (fd_take_tree T) ["numbers", "left"] [] := (F_take_tree T).bindsN fun _ _ _ _ _ _ us hl => match us, hl with | [_, _], _ => rfl
theorem sc_take_tree : FnScope ["numbers", "left", "kind", "low", "_"] ["numbers", "left"] (defScope s_take_tree) := ⟨rfl, rfl, rfl, by decide +kernel, rfl, by decide +kernel, by decide +kernel⟩
noncomputable def fd_take_whole_tree (T : Tx K mg) : FuncData := (T.c.def_ 39 (d := d_take_whole_tree) rfl).choose
theorem F_take_whole_tree (T : Tx K mg) : FunD K d_take_whole_tree.name d_take_whole_tree.qual d_take_whole_tree.params d_take_whole_tree.body d_take_whole_tree.scope (d_take_whole_tree.dvs K) (d_take_whole_tree.kws K) (He.fAd K d_take_whole_tree.at_) (fd_take_whole_tree T) := (T.c.def_ 39 (d := d_take_whole_tree) rfl).choose_spec
theorem b_take_whole_tree (T : Tx K mg) : Binds K (fd_take_whole_tree T) ["numbers"] [] := (F_take_whole_tree T).bindsN fun _ _ _ _ _ _ us hl => match us, hl with | [_], _ => rfl
theorem sc_take_whole_tree : FnScope ["numbers"] ["numbers"] (defScope s_take_whole_tree) := ⟨rfl, rfl, rfl, by decide +kernel, rfl, by decide +kernel, by decide +kernel⟩
noncomputable def fd_text_of (T : Tx K mg) : FuncData := (T.c.def_ 40 (d := d_text_of) rfl).choose
theorem F_text_of (T : Tx K mg) : FunD K d_text_of.name d_text_of.qual d_text_of.params d_text_of.body d_text_of.scope (d_text_of.dvs K) (d_text_of.kws K) (He.fAd K d_text_of.at_) (fd_text_of T) := (T.c.def_ 40 (d := d_text_of) rfl).choose_spec
theorem b_text_of (T : Tx K mg) : Binds K (fd_text_of T) ["head", "numbers"] [] := (F_text_of T).bindsN fun _ _ _ _ _ _ us hl => match us, hl with | [_, _], _ => rfl
theorem sc_text_of : FnScope ["head", "numbers", "number"] ["head", "numbers"] (defScope s_text_of) := ⟨rfl, rfl, rfl, by decide +kernel, rfl, by decide +kernel, by decide +kernel⟩
noncomputable def fd_number_of (T : Tx K mg) : FuncData := (T.c.def_ 41 (d := d_number_of) rfl).choose
theorem F_number_of (T : Tx K mg) : FunD K d_number_of.name d_number_of.qual d_number_of.params d_number_of.body d_number_of.scope (d_number_of.dvs K) (d_number_of.kws K) (He.fAd K d_number_of.at_) (fd_number_of T) := (T.c.def_ 41 (d := d_number_of) rfl).choose_spec
theorem b_number_of (T : Tx K mg) : Binds K (fd_number_of T) ["word"] [] := (F_number_of T).bindsN fun _ _ _ _ _ _ us hl => match us, hl with | [_], _ => rfl
theorem sc_number_of : FnScope ["word", "digits", "number"] ["word"] (defScope s_number_of) := ⟨rfl, rfl, rfl, by decide +kernel, rfl, by decide +kernel, by decide +kernel⟩
noncomputable def fd_Numbers_init (T : Tx K mg) : FuncData := (T.c.def_ 42 (d := d_Numbers_init) rfl).choose
theorem F_Numbers_init (T : Tx K mg) : FunD K d_Numbers_init.name d_Numbers_init.qual d_Numbers_init.params d_Numbers_init.body d_Numbers_init.scope (d_Numbers_init.dvs K) (d_Numbers_init.kws K) (He.fAd K d_Numbers_init.at_) (fd_Numbers_init T) := (T.c.def_ 42 (d := d_Numbers_init) rfl).choose_spec
theorem b_Numbers_init (T : Tx K mg) : Binds K (fd_Numbers_init T) ["self", "head", "text"] [] := (F_Numbers_init T).bindsN fun _ _ _ _ _ _ us hl => match us, hl with | [_, _, _], _ => rfl
theorem sc_Numbers_init : FnScope ["self", "head", "text", "lines", "word"] ["self", "head", "text"] (defScope s_Numbers_init) := ⟨rfl, rfl, rfl, by decide +kernel, rfl, by decide +kernel, by decide +kernel⟩
noncomputable def fd_Numbers_take (T : Tx K mg) : FuncData := (T.c.def_ 43 (d := d_Numbers_take) rfl).choose
theorem F_Numbers_take (T : Tx K mg) : FunD K d_Numbers_take.name d_Numbers_take.qual d_Numbers_take.params d_Numbers_take.body d_Numbers_take.scope (d_Numbers_take.dvs K) (d_Numbers_take.kws K) (He.fAd K d_Numbers_take.at_) (fd_Numbers_take T) := (T.c.def_ 43 (d := d_Numbers_take) rfl).choose_spec
theorem b_Numbers_take (T : Tx K mg) : Binds K (fd_Numbers_take T) ["self"] [] := (F_Numbers_take T).bindsN fun _ _ _ _ _ _ us hl => match us, hl with | [_], _ => rfl
theorem sc_Numbers_take : FnScope ["self"] ["self"] (defScope s_Numbers_take) := ⟨rfl, rfl, rfl, by decide +kernel, rfl, by decide +kernel, by decide +kernel⟩
noncomputable def fd_Numbers_take_within (T : Tx K mg) : FuncData := (T.c.def_ 44 (d := d_Numbers_take_within) rfl).choose
theorem F_Numbers_take_within (T : Tx K mg) : FunD K d_Numbers_take_within.name d_Numbers_take_within.qual d_Numbers_take_within.params d_Numbers_take_within.body d_Numbers_take_within.scope (d_Numbers_take_within.dvs K) (d_Numbers_take_within.kws K) (He.fAd K d_Numbers_take_within.at_) (fd_Numbers_take_within T) := (T.c.def_ 44 (d := d_Numbers_take_within) rfl).choose_spec
theorem b_Numbers_take_within (T : Tx K mg) : Binds K (fd_Numbers_take_within T) ["self", "low", "high"] [] := (F_Numbers_take_within T).bindsN fun _ _ _ _ _ _ us hl => match us, hl with | [_, _, _], _ => rfl
theorem sc_Numbers_take_within : FnScope ["self", "low", "high", "number"] ["self", "low", "high"] (defScope s_Numbers_take_within) := ⟨rfl, rfl, rfl, by decide +kernel, rfl, by decide +kernel, by decide +kernel⟩
noncomputable def fd_Numbers_take_size (T : Tx K mg) : FuncData := (T.c.def_ 45 (d := d_Numbers_take_size) rfl).choose
theorem F_Numbers_take_size (T : Tx K mg) : FunD K d_Numbers_take_size.name d_Numbers_take_size.qual d_Numbers_take_size.params d_Numbers_take_size.body d_Numbers_take_size.scope (d_Numbers_take_size.dvs K) (d_Numbers_take_size.kws K) (He.fAd K d_Numbers_take_size.at_) (fd_Numbers_take_size T) := (T.c.def_ 45 (d := d_Numbers_take_size) rfl).choose_spec
theorem b_Numbers_take_size (T : Tx K mg) : Binds K (fd_Numbers_take_size T) ["self"] [] := (F_Numbers_take_size T).bindsN fun _ _ _ _ _ _ us hl => match us, hl with | [_], _ => rfl
theorem sc_Numbers_take_size : FnScope ["self"] ["self"] (defScope s_Numbers_take_size) := ⟨rfl, rfl, rfl, by decide +kernel, rfl, by decide +kernel, by decide +kernel⟩
noncomputable def fd_Numbers_take_vector (T : Tx K mg) : FuncData := (T.c.def_ 46 (d := d_Numbers_take_vector) rfl).choose
theorem F_Numbers_take_vector (T : Tx K mg) : FunD K d_Numbers_take_vector.name d_Numbers_take_vector.qual d_Numbers_take_vector.params d_Numbers_take_vector.body d_Numbers_take_vector.scope (d_Numbers_take_vector.dvs K) (d_Numbers_take_vector.kws K) (He.fAd K d_Numbers_take_vector.at_) (fd_Numbers_take_vector T) := (T.c.def_ 46 (d := d_Numbers_take_vector) rfl).choose_spec
theorem b_Numbers_take_vector (T : Tx K mg) : Binds K (fd_Numbers_take_vector T) ["self"] [] := (F_Numbers_take_vector T).bindsN fun _ _ _ _ _ _ us hl => match us, hl with | [_], _ => rfl
theorem sc_Numbers_take_vector : FnScope ["self"] ["self"] (defScope s_Numbers_take_vector) := ⟨rfl, rfl, rfl, by decide +kernel, rfl, by decide +kernel, by decide +kernel⟩
noncomputable def fd_Numbers_finish (T : Tx K mg) : FuncData := (T.c.def_ 47 (d := d_Numbers_finish) rfl).choose
theorem F_Numbers_finish (T : Tx K mg) : FunD K d_Numbers_finish.name d_Numbers_finish.qual d_Numbers_finish.params d_Numbers_finish.body d_Numbers_finish.scope (d_Numbers_finish.dvs K) (d_Numbers_finish.kws K) (He.fAd K d_Numbers_finish.at_) (fd_Numbers_finish T) := (T.c.def_ 47 (d := d_Numbers_finish) rfl).choose_spec
theorem b_Numbers_finish (T : Tx K mg) : Binds K (fd_Numbers_finish T) ["self"] [] := (F_Numbers_finish T).bindsN fun _ _ _ _ _ _ us hl => match us, hl with | [_], _ => rfl
theorem sc_Numbers_finish : FnScope ["self"] ["self"] (defScope s_Numbers_finish) := ⟨rfl, rfl, rfl, by decide +kernel, rfl, by decide +kernel, by decide +kernel⟩
noncomputable def fd_write_certificate (T : Tx K mg) : FuncData := (T.c.def_ 48 (d := d_write_certificate) rfl).choose
theorem F_write_certificate (T : Tx K mg) : FunD K d_write_certificate.name d_write_certificate.qual d_write_certificate.params d_write_certificate.body d_write_certificate.scope (d_write_certificate.dvs K) (d_write_certificate.kws K) (He.fAd K d_write_certificate.at_) (fd_write_certificate T) := (T.c.def_ 48 (d := d_write_certificate) rfl).choose_spec
theorem b_write_certificate (T : Tx K mg) : Binds K (fd_write_certificate T) ["matter", "tree"] [] := (F_write_certificate T).bindsN fun _ _ _ _ _ _ us hl => match us, hl with | [_, _], _ => rfl
theorem sc_write_certificate : FnScope ["matter", "tree"] ["matter", "tree"] (defScope s_write_certificate) := ⟨rfl, rfl, rfl, by decide +kernel, rfl, by decide +kernel, by decide +kernel⟩
noncomputable def fd_read_certificate (T : Tx K mg) : FuncData := (T.c.def_ 49 (d := d_read_certificate) rfl).choose
theorem F_read_certificate (T : Tx K mg) : FunD K d_read_certificate.name d_read_certificate.qual d_read_certificate.params d_read_certificate.body d_read_certificate.scope (d_read_certificate.dvs K) (d_read_certificate.kws K) (He.fAd K d_read_certificate.at_) (fd_read_certificate T) := (T.c.def_ 49 (d := d_read_certificate) rfl).choose_spec
theorem b_read_certificate (T : Tx K mg) : Binds K (fd_read_certificate T) ["text"] [] := (F_read_certificate T).bindsN fun _ _ _ _ _ _ us hl => match us, hl with | [_], _ => rfl
theorem sc_read_certificate : FnScope ["text", "numbers", "matter", "tree"] ["text"] (defScope s_read_certificate) := ⟨rfl, rfl, rfl, by decide +kernel, rfl, by decide +kernel, by decide +kernel⟩
noncomputable def fd_l_rows (T : Tx K mg) : FuncData := (T.c.def_ 50 (d := d_l_rows) rfl).choose
theorem F_l_rows (T : Tx K mg) : FunD K d_l_rows.name d_l_rows.qual d_l_rows.params d_l_rows.body d_l_rows.scope (d_l_rows.dvs K) (d_l_rows.kws K) (He.fAd K d_l_rows.at_) (fd_l_rows T) := (T.c.def_ 50 (d := d_l_rows) rfl).choose_spec
theorem b_l_rows (T : Tx K mg) : Binds K (fd_l_rows T) ["_law_script", "_law_count"] [] := (F_l_rows T).bindsN fun _ _ _ _ _ _ us hl => match us, hl with | [_, _], _ => rfl
theorem sc_l_rows : FnScope ["_law_script", "_law_count", "_law_rows_here", "_law_k", "_law_cell"] ["_law_script", "_law_count"] (defScope s_l_rows) := ⟨rfl, rfl, rfl, by decide +kernel, rfl, by decide +kernel, by decide +kernel⟩
noncomputable def fd_l_joint (T : Tx K mg) : FuncData := (T.c.def_ 51 (d := d_l_joint) rfl).choose
theorem F_l_joint (T : Tx K mg) : FunD K d_l_joint.name d_l_joint.qual d_l_joint.params d_l_joint.body d_l_joint.scope (d_l_joint.dvs K) (d_l_joint.kws K) (He.fAd K d_l_joint.at_) (fd_l_joint T) := (T.c.def_ 51 (d := d_l_joint) rfl).choose_spec
theorem b_l_joint (T : Tx K mg) : Binds K (fd_l_joint T) ["_law_row", "_law_error"] [] := (F_l_joint T).bindsN fun _ _ _ _ _ _ us hl => match us, hl with | [_, _], _ => rfl
theorem sc_l_joint : FnScope ["_law_row", "_law_error", "_law_turns", "_law_axis", "_law_offset", "_law_reach", "_law_loose"] ["_law_row", "_law_error"] (defScope s_l_joint) := ⟨rfl, rfl, rfl, by decide +kernel, rfl, by decide +kernel, by decide +kernel⟩
noncomputable def fd_l_capsule (T : Tx K mg) : FuncData := (T.c.def_ 52 (d := d_l_capsule) rfl).choose
theorem F_l_capsule (T : Tx K mg) : FunD K d_l_capsule.name d_l_capsule.qual d_l_capsule.params d_l_capsule.body d_l_capsule.scope (d_l_capsule.dvs K) (d_l_capsule.kws K) (He.fAd K d_l_capsule.at_) (fd_l_capsule T) := (T.c.def_ 52 (d := d_l_capsule) rfl).choose_spec
theorem b_l_capsule (T : Tx K mg) : Binds K (fd_l_capsule T) ["_law_row", "_law_links"] [] := (F_l_capsule T).bindsN fun _ _ _ _ _ _ us hl => match us, hl with | [_, _], _ => rfl
theorem sc_l_capsule : FnScope ["_law_row", "_law_links", "_law_first", "_law_last"] ["_law_row", "_law_links"] (defScope s_l_capsule) := ⟨rfl, rfl, rfl, by decide +kernel, rfl, by decide +kernel, by decide +kernel⟩
noncomputable def fd_l_values (T : Tx K mg) : FuncData := (T.c.def_ 53 (d := d_l_values) rfl).choose
theorem F_l_values (T : Tx K mg) : FunD K d_l_values.name d_l_values.qual d_l_values.params d_l_values.body d_l_values.scope (d_l_values.dvs K) (d_l_values.kws K) (He.fAd K d_l_values.at_) (fd_l_values T) := (T.c.def_ 53 (d := d_l_values) rfl).choose_spec
theorem b_l_values (T : Tx K mg) : Binds K (fd_l_values T) ["_law_joints", "_law_row"] [] := (F_l_values T).bindsN fun _ _ _ _ _ _ us hl => match us, hl with | [_, _], _ => rfl
theorem sc_l_values : FnScope ["_law_joints", "_law_row", "_law_values_here", "_law_k", "_law_size"] ["_law_joints", "_law_row"] (defScope s_l_values) := ⟨rfl, rfl, rfl, by decide +kernel, rfl, by decide +kernel, by decide +kernel⟩
noncomputable def fd_l_turned (T : Tx K mg) : FuncData := (T.c.def_ 54 (d := d_l_turned) rfl).choose
theorem F_l_turned (T : Tx K mg) : FunD K d_l_turned.name d_l_turned.qual d_l_turned.params d_l_turned.body d_l_turned.scope (d_l_turned.dvs K) (d_l_turned.kws K) (He.fAd K d_l_turned.at_) (fd_l_turned T) := (T.c.def_ 54 (d := d_l_turned) rfl).choose_spec
theorem b_l_turned (T : Tx K mg) : Binds K (fd_l_turned T) ["_law_place", "_law_axis", "_law_value"] [] := (F_l_turned T).bindsN fun _ _ _ _ _ _ us hl => match us, hl with | [_, _, _], _ => rfl
theorem sc_l_turned : FnScope ["_law_place", "_law_axis", "_law_value", "_law_over", "_law_under", "_law_one", "_law_two", "_law_straight", "_law_across", "_law_whole", "_law_out"] ["_law_place", "_law_axis", "_law_value"] (defScope s_l_turned) := ⟨rfl, rfl, rfl, by decide +kernel, rfl, by decide +kernel, by decide +kernel⟩
noncomputable def fd_l_true (T : Tx K mg) : FuncData := (T.c.def_ 55 (d := d_l_true) rfl).choose
theorem F_l_true (T : Tx K mg) : FunD K d_l_true.name d_l_true.qual d_l_true.params d_l_true.body d_l_true.scope (d_l_true.dvs K) (d_l_true.kws K) (He.fAd K d_l_true.at_) (fd_l_true T) := (T.c.def_ 55 (d := d_l_true) rfl).choose_spec
theorem b_l_true (T : Tx K mg) : Binds K (fd_l_true T) ["_law_joints", "_law_values_here", "_law_offsets_here", "_law_link", "_law_point"] [] := (F_l_true T).bindsN fun _ _ _ _ _ _ us hl => match us, hl with | [_, _, _, _, _], _ => rfl
theorem sc_l_true : FnScope ["_law_joints", "_law_values_here", "_law_offsets_here", "_law_link", "_law_point", "_law_place", "_law_back", "_law_k", "_law_joint_here", "_law_value", "_law_shift", "_law_part", "_law_j"] ["_law_joints", "_law_values_here", "_law_offsets_here", "_law_link", "_law_point"] (defScope s_l_true) := ⟨rfl, rfl, rfl, by decide +kernel, rfl, by decide +kernel, by decide +kernel⟩
noncomputable def fd_l_meant (T : Tx K mg) : FuncData := (T.c.def_ 56 (d := d_l_meant) rfl).choose
theorem F_l_meant (T : Tx K mg) : FunD K d_l_meant.name d_l_meant.qual d_l_meant.params d_l_meant.body d_l_meant.scope (d_l_meant.dvs K) (d_l_meant.kws K) (He.fAd K d_l_meant.at_) (fd_l_meant T) := (T.c.def_ 56 (d := d_l_meant) rfl).choose_spec
theorem b_l_meant (T : Tx K mg) : Binds K (fd_l_meant T) ["_law_joints", "_law_first", "_law_last", "_law_part", "_law_row"] [] := (F_l_meant T).bindsN fun _ _ _ _ _ _ us hl => match us, hl with | [_, _, _, _, _], _ => rfl
theorem sc_l_meant : FnScope ["_law_joints", "_law_first", "_law_last", "_law_part", "_law_row", "_law_values_here", "_law_k", "_law_loose", "_law_over"] ["_law_joints", "_law_first", "_law_last", "_law_part", "_law_row"] (defScope s_l_meant) := ⟨rfl, rfl, rfl, by decide +kernel, rfl, by decide +kernel, by decide +kernel⟩
noncomputable def fd_l_offsets (T : Tx K mg) : FuncData := (T.c.def_ 57 (d := d_l_offsets) rfl).choose
theorem F_l_offsets (T : Tx K mg) : FunD K d_l_offsets.name d_l_offsets.qual d_l_offsets.params d_l_offsets.body d_l_offsets.scope (d_l_offsets.dvs K) (d_l_offsets.kws K) (He.fAd K d_l_offsets.at_) (fd_l_offsets T) := (T.c.def_ 57 (d := d_l_offsets) rfl).choose_spec
theorem b_l_offsets (T : Tx K mg) : Binds K (fd_l_offsets T) ["_law_joints", "_law_row"] [] := (F_l_offsets T).bindsN fun _ _ _ _ _ _ us hl => match us, hl with | [_, _], _ => rfl
theorem sc_l_offsets : FnScope ["_law_joints", "_law_row", "_law_offsets_here", "_law_k", "_law_wide", "_law_shift", "_law_j"] ["_law_joints", "_law_row"] (defScope s_l_offsets) := ⟨rfl, rfl, rfl, by decide +kernel, rfl, by decide +kernel, by decide +kernel⟩
noncomputable def fd_l_arm (T : Tx K mg) : FuncData := (T.c.def_ 58 (d := d_l_arm) rfl).choose
theorem F_l_arm (T : Tx K mg) : FunD K d_l_arm.name d_l_arm.qual d_l_arm.params d_l_arm.body d_l_arm.scope (d_l_arm.dvs K) (d_l_arm.kws K) (He.fAd K d_l_arm.at_) (fd_l_arm T) := (T.c.def_ 58 (d := d_l_arm) rfl).choose_spec
theorem b_l_arm (T : Tx K mg) : Binds K (fd_l_arm T) ["_law_rows_here"] [] := (F_l_arm T).bindsN fun _ _ _ _ _ _ us hl => match us, hl with | [_], _ => rfl
theorem sc_l_arm : FnScope ["_law_rows_here", "_law_many", "_law_joints", "_law_capsules", "_law_beside", "_law_k"] ["_law_rows_here"] (defScope s_l_arm) := ⟨rfl, rfl, rfl, by decide +kernel, rfl, by decide +kernel, by decide +kernel⟩
noncomputable def fd_l_pairs (T : Tx K mg) : FuncData := (T.c.def_ 59 (d := d_l_pairs) rfl).choose
theorem F_l_pairs (T : Tx K mg) : FunD K d_l_pairs.name d_l_pairs.qual d_l_pairs.params d_l_pairs.body d_l_pairs.scope (d_l_pairs.dvs K) (d_l_pairs.kws K) (He.fAd K d_l_pairs.at_) (fd_l_pairs T) := (T.c.def_ 59 (d := d_l_pairs) rfl).choose_spec
theorem b_l_pairs (T : Tx K mg) : Binds K (fd_l_pairs T) ["_law_links", "_law_beside"] [] := (F_l_pairs T).bindsN fun _ _ _ _ _ _ us hl => match us, hl with | [_, _], _ => rfl
theorem sc_l_pairs : FnScope ["_law_links", "_law_beside", "_law_row", "_law_k", "_law_j"] ["_law_links", "_law_beside"] (defScope s_l_pairs) := ⟨rfl, rfl, rfl, by decide +kernel, rfl, by decide +kernel, by decide +kernel⟩
noncomputable def fd_law (T : Tx K mg) : FuncData := (T.c.def_ 60 (d := d_law) rfl).choose
theorem F_law (T : Tx K mg) : FunD K d_law.name d_law.qual d_law.params d_law.body d_law.scope (d_law.dvs K) (d_law.kws K) (He.fAd K d_law.at_) (fd_law T) := (T.c.def_ 60 (d := d_law) rfl).choose_spec
theorem b_law (T : Tx K mg) : Binds K (fd_law T) ["_law_script"] [] := (F_law T).bindsN fun _ _ _ _ _ _ us hl => match us, hl with | [_], _ => rfl
theorem sc_law : FnScope ["_law_script", "_law_rows_here", "_law_arm_here", "_law_joints", "_law_many", "_law_first", "_law_last", "_law_move", "_law_depth", "_law_at", "_law_under", "_law_part", "_law_values_here", "_law_offsets_here", "_law_mover", "_law_bodies", "_law_middle", "_law_loose", "_law_k", "_law_link", "_law_body", "_law_bound", "_law_end", "_law_true_here", "_law_due", "_law_seen", "_law_away", "_law_matter", "_law_text", "_law_other", "_law_j"] ["_law_script"] (defScope s_law) := ⟨rfl, rfl, rfl, by decide +kernel, rfl, by decide +kernel, by decide +kernel⟩
end
end K82
/-! Numbers and vectors. -/
namespace K82
open PySem PySem.Spec PyProof.Rows L2 Evl
theorem hu64 {A : Around} {k : Nat} (hr : Room k A) : A.units + 64 < cLine := hr.units
theorem hu65 {A : Around} {k : Nat} (hr : Room k A) : A.units + 65 < cLine := by have := hr.un; omega
-- sizes, side conditions
local macro_rules | `(tactic| walk_at "bz") => `(tactic| first | assumption | ((with_reducible apply bz_mul); (walk_at "bz"); (walk_at "bz")) | ((with_reducible apply bz_add); (walk_at "bz"); (walk_at "bz")) | ((with_reducible apply bz_sub); (walk_at "bz"); (walk_at "bz")) | ((with_reducible apply bz_lit); decide))
local macro_rules | `(tactic| walk_at "sw") => `(tactic| first | ((with_reducible apply cmulW_of); (walk_at "bz"); (walk_at "bz"); omega) | ((with_reducible apply cdivW_of); (first | assumption | omega); (walk_at "bz"); omega) | ((with_reducible apply cpowW_of); (walk_at "bz"); omega))
local macro_rules | `(tactic| walk_at "sd") => `(tactic| first | assumption | omega | exact Or.inl (And.intro (by omega) (by omega)) | exact Or.inr (And.intro (by omega) (by omega)) | exact And.intro (by omega) (by omega) | exact And.intro (by omega) (And.intro (by omega) (by omega)) | decide)
-- what an operator gives
local macro_rules | `(tactic| walk_at "rv") => `(tactic| first
  | (with_reducible exact rv_add)
  | (with_reducible exact rv_sub)
  | ((with_reducible apply rv_mul); walk_at "sd")
  | ((with_reducible apply rv_mulW); first | assumption | walk_at "sw")
  | ((with_reducible apply rv_mod); walk_at "sd")
  | ((with_reducible apply rv_fdiv); walk_at "sd")
  | ((with_reducible apply rv_fdivW); first | assumption | walk_at "sw")
  | ((with_reducible apply rv_shl); walk_at "sd")
  | ((with_reducible apply rv_shr); walk_at "sd")
  | ((with_reducible apply rv_pow); first | assumption | walk_at "sw")
  | (with_reducible exact rv_lt)
  | (with_reducible exact rv_le)
  | (with_reducible exact rv_gt)
  | (with_reducible exact rv_ge)
  | (with_reducible exact rv_eqI)
  | (with_reducible exact rv_neI)
  | (with_reducible exact rv_eqS)
  | (with_reducible exact rv_neS)
  | ((with_reducible apply rv_ixT); assumption; first | (exact rfl) | assumption)
  | ((with_reducible apply rv_ixL); assumption; first | (exact rfl) | assumption)
  | ((with_reducible apply rv_addS); walk_at "sd"))
-- what a built-in gives
local macro_rules | `(tactic| walk_at "rc") => `(tactic| first
  | (with_reducible exact rc_abs)
  | (with_reducible exact rc_max2)
  | (with_reducible exact rc_max3)
  | (with_reducible exact rc_int)
  | (with_reducible exact rc_intB)
  | (with_reducible exact rc_gcd)
  | ((with_reducible apply rc_isqrt) <;> walk_at "sd")
  | ((with_reducible apply rc_str); walk_at "sd")
  | ((with_reducible apply rc_lenL); assumption)
  | ((with_reducible apply rc_lenT); assumption)
  | ((with_reducible apply rc_lenZ); walk_at "sd")
  | ((with_reducible apply rc_tupT); assumption))
-- an expression, arguments, a test
local macro_rules | `(tactic| walk_at "ev") => `(tactic| first
  | (with_reducible exact ev_c)
  | ((with_reducible apply ev_var); exact rfl)
  | ((with_reducible apply ev_op); (walk_at "ev"); (walk_at "ev"); (walk_at "rv"))
  | ((with_reducible apply ev_un); (walk_at "ev"); (with_reducible exact ru_neg))
  | ((with_reducible apply ev_cb); (walk_at "ea"); (walk_at "rc"))
  | ((with_reducible apply ev_chain); (walk_at "ev"); (walk_at "ev"); (walk_at "rv"); (intro _; walk_at "ev"); (intro _; walk_at "rv"))
  | ((with_reducible apply ev_chain3); (walk_at "ev"); (walk_at "ev"); (walk_at "rv"); (intro _; walk_at "ev"); (intro _; walk_at "rv"); (intro _ _; walk_at "ev"); (intro _ _; walk_at "rv"))
  | ((with_reducible apply ev_notV); (walk_at "ev"))
  | ((with_reducible apply ev_ifx); (walk_at "et"); (walk_at "ev"); (walk_at "ev"))
  | walk_at "evf")
local macro_rules | `(tactic| walk_at "ea") => `(tactic| first
  | (with_reducible exact ea_nil)
  | ((with_reducible apply ea_cons); (walk_at "ev"); (walk_at "ea")))
local macro_rules | `(tactic| walk_at "et") => `(tactic| first
  | ((with_reducible apply et_test); (walk_at "ev"))
  | ((with_reducible apply et_B); (walk_at "ev"))
  | ((with_reducible apply et_not); (walk_at "et"))
  | ((with_reducible apply et_and); (walk_at "et"); (intro _; walk_at "et"))
  | ((with_reducible apply et_or); (walk_at "et"); (intro _; walk_at "et")))
-- normal forms of the slots
local macro_rules | `(tactic| walk_at "n0") => `(tactic| try dsimp only [cxOf, L2.start, List.map, List.replicate, List.length, List.append, HAppend.hAppend, Append.append, Nat.sub, Nat.reduceSub, Nat.reduceAdd])
local macro_rules | `(tactic| walk_at "nf") => `(tactic| try dsimp only [List.set, L2.wipe, List.map])
/-- the value of math.isqrt, rounded up -/
def rootUp (n : Int) : Int := if ((Float64.isqrt n.toNat : Nat) : Int) * ((Float64.isqrt n.toNat : Nat) : Int) = n then ((Float64.isqrt n.toNat : Nat) : Int) else ((Float64.isqrt n.toNat : Nat) : Int) + 1
section
variable {P : Program} {w : World} {K : PySem.W.Frag} {mg : Str → Option Value} {base : Heap}
def sp_root_up (_ : PySem.W.Frag) : Sp := fun vs H Q _ => ∃ n : Int, vs = [.int n] ∧ 0 ≤ n ∧ n < 2 ^ 64 ∧ Ret (fun v _ => v = .int (rootUp n)) H Q
theorem ok_root_up (T : Tx K mg) : FnOk P w K mg base CX0 1 (He.fAd K d_root_up.at_) (fd_root_up T) ["number"] (sp_root_up K) := by
  refine (F_root_up T).ok sc_root_up (fun vs H Q E h => ?_) (fun cdv A outer s H vs Q E hr h => ?_)
  · obtain ⟨n, rfl, _⟩ := h
    rfl
  · obtain ⟨n, rfl, h0, h1, k⟩ := h
    have hi : Float64.isqrt n.toNat < 2 ^ 64 := by
      have h2 := (Float64.isqrt_spec n.toNat).1
      rcases Nat.lt_or_ge (Float64.isqrt n.toNat) (2 ^ 64) with z | z
      · exact z
      · have := Nat.mul_le_mul z z
        omega
    refine ⟨_, PSs.nox (pss_cons (ps_set (i := 1) sc_root_up.nd rfl (Or.inl rfl) (pe_callBfun cr_isqrt rfl (gb_isqrt T) (pa_cons (pv 0) pa_nil)))
      (pss_cons (ps_if (pt_cmpR op_eq (pe_op op_mul (pv 1) (pv 1)) (pv 0) (nomark _)) (pss_one (ps_ret (pv 1))) pss_nil)
      (pss_one (ps_ret (pe_op op_add (pv 1) pe_int))))), ?_⟩
    walk_at "n0"
    refine EvS.go ?_
    refine z_asg (v := .int ((Float64.isqrt n.toNat : Nat) : Int)) (by walk_at "ev") ?_
    walk_at "nf"
    refine z_ifret (b := decide (((Float64.isqrt n.toNat : Nat) : Int) * ((Float64.isqrt n.toNat : Nat) : Int) = n)) (by walk_at "et") (fun hb => ?_) (fun hb => ?_)
    · refine z_retV (by walk_at "ev") fun H1 e => k _ H1 e ?_
      unfold rootUp
      rw [if_pos (of_decide_eq_true hb)]
    · refine z_retV (by walk_at "ev") fun H1 e => k _ H1 e ?_
      unfold rootUp
      rw [if_neg (of_decide_eq_false hb)]
def sp_divide_up (_ : PySem.W.Frag) : Sp := fun vs H Q _ => ∃ n d : Int, vs = [.int n, .int d] ∧ 0 < d ∧ d < 1073741824 ∧ Ret (fun v _ => v = .int (divUp n d)) H Q
theorem ok_divide_up (T : Tx K mg) : FnOk P w K mg base CX0 1 (He.fAd K d_divide_up.at_) (fd_divide_up T) ["number", "divisor"] (sp_divide_up K) := by
  refine (F_divide_up T).ok sc_divide_up (fun vs H Q E h => ?_) (fun cdv A outer s H vs Q E hr h => ?_)
  · obtain ⟨n, d, rfl, _⟩ := h
    rfl
  · obtain ⟨n, d, rfl, h0, h1, k⟩ := h
    refine ⟨_, PSs.nox (pss_one (ps_ret (pe_un un_neg (pe_op op_fdiv (pe_un un_neg (pv 0)) (pv 1))))), ?_⟩
    walk_at "n0"
    refine EvS.go ?_
    refine z_retV (by walk_at "ev") fun H1 e => k _ H1 e ?_
    rfl
/-! vectors -/
def I3.l (v : I3) : List Int := [v.x, v.y, v.z]
def I3.vs (v : I3) : List V := [.int v.x, .int v.y, .int v.z]
/-- coordinates below 2 ^ 30 -/
def Sm (v : I3) : Prop := (-1073741824 < v.x ∧ v.x < 1073741824) ∧ (-1073741824 < v.y ∧ v.y < 1073741824) ∧ (-1073741824 < v.z ∧ v.z < 1073741824)
def dotI (u v : I3) : Int := u.x * v.x + u.y * v.y + u.z * v.z
def sp_dot (K : PySem.W.Frag) : Sp := fun vs H Q _ => ∃ (a b : Addr) (u v : I3), vs = [.ref a, .ref b] ∧ SqT K H a u.vs ∧ SqT K H b v.vs ∧ Sm u ∧ Ret (fun x _ => x = .int (dotI u v)) H Q
theorem ok_dot (T : Tx K mg) : FnOk P w K mg base CX0 1 (He.fAd K d_dot.at_) (fd_dot T) ["first", "second"] (sp_dot K) := by
  refine (F_dot T).ok sc_dot (fun vs H Q E h => ?_) (fun cdv A outer s H vs Q E hr h => ?_)
  · obtain ⟨a, b, u, v, rfl, _⟩ := h
    rfl
  · obtain ⟨a, b, u, v, rfl, ha, hb, hs, k⟩ := h
    obtain ⟨⟨s1, s2⟩, ⟨s3, s4⟩, s5, s6⟩ := hs
    unfold I3.vs at ha hb
    refine ⟨_, PSs.nox (pss_one (ps_ret (pe_op op_add (pe_op op_add (pe_op op_mul (pe_ix (ix_tupK (K := K)) (pv 0) pe_int (fun _ _ => rfl)) (pe_ix (ix_tupK (K := K)) (pv 1) pe_int (fun _ _ => rfl))) (pe_op op_mul (pe_ix (ix_tupK (K := K)) (pv 0) pe_int (fun _ _ => rfl)) (pe_ix (ix_tupK (K := K)) (pv 1) pe_int (fun _ _ => rfl)))) (pe_op op_mul (pe_ix (ix_tupK (K := K)) (pv 0) pe_int (fun _ _ => rfl)) (pe_ix (ix_tupK (K := K)) (pv 1) pe_int (fun _ _ => rfl)))))), ?_⟩
    walk_at "n0"
    refine EvS.go ?_
    refine z_retV (by walk_at "ev") fun H1 e => k _ H1 e ?_
    rfl
theorem sq_le {x : Int} (h1 : -1073741824 < x) (h2 : x < 1073741824) : x * x ≤ 1152921504606846976 := by
  rcases Int.le_total 0 x with z | z
  · have := Int.mul_le_mul (Int.le_of_lt h2) (Int.le_of_lt h2) z (by omega)
    omega
  · have := Int.mul_le_mul (show -x ≤ 1073741824 by omega) (show -x ≤ 1073741824 by omega) (by omega) (by omega)
    have e : -x * -x = x * x := Int.neg_mul_neg x x
    omega
theorem sq_nn (x : Int) : 0 ≤ x * x := by
  rcases Int.le_total 0 x with z | z
  · exact Int.mul_nonneg z z
  · exact Int.mul_nonneg_of_nonpos_of_nonpos z z
def lenUp (v : I3) : Int := rootUp v.sq
theorem rootUp_ok {n : Int} (h : 0 ≤ n) : 0 ≤ rootUp n ∧ n ≤ rootUp n * rootUp n := by
  obtain ⟨h1, h2⟩ := Float64.isqrt_spec n.toNat
  unfold rootUp
  have e : ((n.toNat : Nat) : Int) = n := Int.toNat_of_nonneg h
  generalize Float64.isqrt n.toNat = r at *
  split
  · rename_i q
    omega
  · refine ⟨by omega, ?_⟩
    have := Int.ofNat_lt.mpr h2
    rw [e] at this
    have e2 : (((r + 1) * (r + 1) : Nat) : Int) = ((r : Int) + 1) * ((r : Int) + 1) := by
      rw [Int.natCast_mul, Int.natCast_add] <;> rfl
    omega
theorem lenUp_ok (v : I3) : 0 ≤ lenUp v ∧ v.sq ≤ lenUp v * lenUp v := rootUp_ok (by
  have h1 := sq_nn v.x
  have h2 := sq_nn v.y
  have h3 := sq_nn v.z
  unfold I3.sq
  omega)
def sp_length_up (K : PySem.W.Frag) : Sp := fun vs H Q _ => ∃ (a : Addr) (u : I3), vs = [.ref a] ∧ SqT K H a u.vs ∧ Sm u ∧ Ret (fun x _ => x = .int (lenUp u)) H Q
theorem ok_length_up (T : Tx K mg) : FnOk P w K mg base CX0 2 (He.fAd K d_length_up.at_) (fd_length_up T) ["vector"] (sp_length_up K) := by
  refine (F_length_up T).ok sc_length_up (fun vs H Q E h => ?_) (fun cdv A outer s H vs Q E hr h => ?_)
  · obtain ⟨a, u, rfl, _⟩ := h
    rfl
  · obtain ⟨a, u, rfl, ha, hs, k⟩ := h
    obtain ⟨⟨s1, s2⟩, ⟨s3, s4⟩, s5, s6⟩ := id hs
    have q1 := sq_le s1 s2
    have q2 := sq_le s3 s4
    have q3 := sq_le s5 s6
    have r1 := sq_nn u.x
    have r2 := sq_nn u.y
    have r3 := sq_nn u.z
    refine ⟨_, PSs.nox (pss_one (ps_ret (pe_call (ok_root_up T) (hr.mono (by decide)) rfl (g_root_up T) (F_root_up T).kp (b_root_up T) .nil pass0 (pa_cons (pe_call (ok_dot T) (hr.mono (by decide)) rfl (g_dot T) (F_dot T).kp (b_dot T) .nil pass0 (pa_cons (pv 0) (pa_cons (pv 0) pa_nil))) pa_nil)))), ?_⟩
    walk_at "n0"
    refine EvS.go ?_
    refine z_retV (v := .int (lenUp u)) (ev_of (ep_call (vs := [.int (dotI u u)]) (ea_cons (ev_of (ep_call (vs := [.ref a, .ref a]) (by walk_at "ea") fun H1 e Q k E => ?_)) ea_nil) fun H1 e Q k E => ?_)) fun H1 e => k _ H1 e rfl
    · exact ⟨a, a, u, u, rfl, ex_t e ha, ex_t e ha, hs, k⟩
    · exact ⟨dotI u u, rfl, by unfold dotI; omega, by unfold dotI; omega, k⟩
/-! exact places -/
def P4.l (p : P4) : List Int := [p.x, p.y, p.z, p.w]
def P4.vs (p : P4) : List V := [.int p.x, .int p.y, .int p.z, .int p.w]
/-- all below 2 ^ n in size -/
def Bd (n : Nat) (p : P4) : Prop := p.x.natAbs < 2 ^ n ∧ p.y.natAbs < 2 ^ n ∧ p.z.natAbs < 2 ^ n ∧ p.w.natAbs < 2 ^ n
theorem common_le {p : P4} (h : 0 < p.w) : (commonM p).natAbs ≤ p.w.natAbs := by
  obtain ⟨_, _, _, d⟩ := common_dvd p
  exact Nat.le_of_dvd (by omega) (Int.natAbs_dvd_natAbs.mpr d)
def sp_reduced (K : PySem.W.Frag) : Sp := fun vs H Q _ => ∃ (a : Addr) (p : P4), vs = [.ref a] ∧ SqT K H a p.vs ∧ 0 < p.w ∧ p.w.natAbs < 2 ^ 4000 ∧ Ret (IsT (reducedM p).vs) H Q
theorem ok_reduced (T : Tx K mg) : FnOk P w K mg base CX0 1 (He.fAd K d_reduced.at_) (fd_reduced T) ["place"] (sp_reduced K) := by
  refine (F_reduced T).ok sc_reduced (fun vs H Q E h => ?_) (fun cdv A outer s H vs Q E hr h => ?_)
  · obtain ⟨a, p, rfl, _⟩ := h
    rfl
  · obtain ⟨a, p, rfl, ha, hw, hb, k⟩ := h
    have hc := common_pos hw
    have hd : CDivW p.x (commonM p) := wide_div hc (Nat.lt_of_le_of_lt (common_le hw) hb) (by decide) (by decide)
    have ha' : SqT K H a (p.l.map V.int) := ha
    unfold P4.vs at ha
    refine ⟨_, PSs.nox (pss_cons (ps_set (i := 1) sc_reduced.nd rfl (Or.inr rfl) (pe_callBfun cr_gcd rfl (gb_gcd T) (pa_cons (pe_callBfun cr_gcd rfl (gb_gcd T) (pa_cons (pe_ix (ix_tupK (K := K)) (pv 0) pe_int (fun _ _ => rfl)) (pa_cons (pe_ix (ix_tupK (K := K)) (pv 0) pe_int (fun _ _ => rfl)) pa_nil))) (pa_cons (pe_callBfun cr_gcd rfl (gb_gcd T) (pa_cons (pe_ix (ix_tupK (K := K)) (pv 0) pe_int (fun _ _ => rfl)) (pa_cons (pe_ix (ix_tupK (K := K)) (pv 0) pe_int (fun _ _ => rfl)) pa_nil))) pa_nil))))
      (pss_one (ps_ret (pe_callTy (k_tupK (K := K)) rfl (gf_tuple T) (by decide +kernel) (pa_cons (pe_lc (own := [("part", 2)]) (g := (gName 2)) (tt := tYes) rfl sc_reduced.nd (pi_tupK (K := K) (pv 0)) (blkOk_by (own := [("part", 2)]) (N := ["place", "common", "part"]) (sc := defScope s_reduced) (by decide +kernel)) (fun _ _ _ _ _ => (pg_name (i := 2) sc_reduced.nd rfl (Or.inl rfl))) (fun _ _ _ _ _ => pts_nil) (fun _ _ _ _ _ => (pe_op op_fdivW (pv 2) (pv 1)))) pa_nil))))), ?_⟩
    walk_at "n0"
    refine EvS.go ?_
    refine z_asg (v := .int (commonM p)) (ev_is (by walk_at "ev") (by rfl)) ?_
    walk_at "nf"
    refine z_ret (P := IsT (reducedM p).vs) (ep_tupOfI (ep_lcTi (ns := p.l) (fun n => .int (n / commonM p)) (by walk_at "ev") ha' (by show 4 ≤ 40000; decide) (fun _ => rfl) fun n hn => ?_)) k
    have hd2 : CDivW n (commonM p) := hd
    walk_at "ev"
end
/-! Places. -/
section
variable {P : Program} {w : World} {K : PySem.W.Frag} {mg : Str → Option Value} {base : Heap}
/-- all of a place below 2 ^ n -/
structure Bp (n : Nat) (p : P4) : Prop where
  x : Bz n p.x
  y : Bz n p.y
  z : Bz n p.z
  w : Bz n p.w
def sp_turned (K : PySem.W.Frag) : Sp := fun vs H Q _ => ∃ (a b : Addr) (p : P4) (ax n : Nat) (over under : Int), vs = [.ref a, .int (ax : Int), .ref b] ∧ SqT K H a p.vs ∧ SqT K H b [.int over, .int under] ∧ ax < 3 ∧ Bp n p ∧ n ≤ 3000 ∧ Bz 40 over ∧ Bz 40 under ∧
  Ret (IsT (turnedM p ax over under).vs) H Q
theorem ok_turned (T : Tx K mg) : FnOk P w K mg base CX0 1 (He.fAd K d_turned.at_) (fd_turned T) ["place", "axis", "value"] (sp_turned K) := by
  refine (F_turned T).ok sc_turned (fun vs H Q E h => ?_) (fun cdv A outer s H vs Q E hr h => ?_)
  · obtain ⟨a, b, p, ax, n, over, under, rfl, _⟩ := h
    rfl
  · obtain ⟨a, b, p, ax, n, over, under, rfl, ha, hb, hx, ⟨b1, b2, b3, b4⟩, hn3, ho, hu, k⟩ := h
    unfold P4.vs at ha
    refine ⟨_, PSs.nox (pss_cons (ps_asg (pv 2) (pg_tupK (K := K) rfl (pgs_cons (pg_name (i := 3) sc_turned.nd rfl (Or.inl rfl)) (pgs_cons (pg_name (i := 4) sc_turned.nd rfl (Or.inl rfl)) pgs_nil))))
      (pss_cons (ps_set (i := 5) sc_turned.nd rfl (Or.inl rfl) (pe_op op_sub (pe_op op_mulW (pv 4) (pv 4)) (pe_op op_mulW (pv 3) (pv 3))))
      (pss_cons (ps_set (i := 6) sc_turned.nd rfl (Or.inl rfl) (pe_op op_mulW (pe_op op_mulW pe_int (pv 3)) (pv 4)))
      (pss_cons (ps_set (i := 7) sc_turned.nd rfl (Or.inl rfl) (pe_op op_add (pe_op op_mulW (pv 4) (pv 4)) (pe_op op_mulW (pv 3) (pv 3))))
      (pss_cons (ps_set (i := 8) sc_turned.nd rfl (Or.inl rfl) (pe_op op_mod (pe_op op_add (pv 1) pe_int) pe_int))
      (pss_cons (ps_set (i := 9) sc_turned.nd rfl (Or.inl rfl) (pe_op op_mod (pe_op op_add (pv 1) pe_int) pe_int))
      (pss_cons (ps_set (i := 10) sc_turned.nd rfl (Or.inl rfl) (pe_lst (pa_cons pe_int (pa_cons pe_int (pa_cons pe_int (pa_cons (pe_op op_mulW (pe_ix (ix_tupK (K := K)) (pv 0) pe_int (fun _ _ => rfl)) (pv 7)) pa_nil))))))
      (pss_cons (ps_asg (pe_op op_mulW (pe_ix (ix_tupK (K := K)) (pv 0) (pv 1) (fun _ _ => rfl)) (pv 7)) (pg_sub (pv 10) (pv 1) set_list))
      (pss_cons (ps_asg (pe_op op_sub (pe_op op_mulW (pe_ix (ix_tupK (K := K)) (pv 0) (pv 8) (fun _ _ => rfl)) (pv 5)) (pe_op op_mulW (pe_ix (ix_tupK (K := K)) (pv 0) (pv 9) (fun _ _ => rfl)) (pv 6))) (pg_sub (pv 10) (pv 8) set_list))
      (pss_cons (ps_asg (pe_op op_add (pe_op op_mulW (pe_ix (ix_tupK (K := K)) (pv 0) (pv 8) (fun _ _ => rfl)) (pv 6)) (pe_op op_mulW (pe_ix (ix_tupK (K := K)) (pv 0) (pv 9) (fun _ _ => rfl)) (pv 5))) (pg_sub (pv 10) (pv 9) set_list))
      (pss_one (ps_ret (pe_callTy (k_tupK (K := K)) rfl (gf_tuple T) (by decide +kernel) (pa_cons (pv 10) pa_nil)))))))))))))), ?_⟩
    walk_at "n0"
    refine EvS.go ?_
    refine z_unpack2 (by walk_at "ev") hb ?_
    walk_at "nf"
    refine z_asg (by walk_at "ev") ?_
    walk_at "nf"
    refine z_asg (by walk_at "ev") ?_
    walk_at "nf"
    refine z_asg (by walk_at "ev") ?_
    walk_at "nf"
    rcases (by omega : ax = 0 ∨ ax = 1 ∨ ax = 2) with rfl | rfl | rfl
    · refine z_asg (v := .int ((1 : Nat) : Int)) (ev_is (by walk_at "ev") (by rfl)) ?_
      walk_at "nf"
      refine z_asg (v := .int ((2 : Nat) : Int)) (ev_is (by walk_at "ev") (by rfl)) ?_
      walk_at "nf"
      refine zm_new (by walk_at "ea") (Nat.le_of_ble_eq_true rfl) fun l hn => ?_
      walk_at "nf"
      refine zm_setV (j := 0) hn (by walk_at "ev") (by walk_at "ev") (by walk_at "ev") (Nat.le_of_ble_eq_true rfl) ?_
      walk_at "nf"
      refine zm_setV (j := 1) hn (by walk_at "ev") (by walk_at "ev") (by walk_at "ev") (Nat.le_of_ble_eq_true rfl) ?_
      walk_at "nf"
      refine zm_setV (j := 2) hn (by walk_at "ev") (by walk_at "ev") (by walk_at "ev") (Nat.le_of_ble_eq_true rfl) ?_
      walk_at "nf"
      exact zm_retT (by walk_at "ev") k
    · refine z_asg (v := .int ((2 : Nat) : Int)) (ev_is (by walk_at "ev") (by rfl)) ?_
      walk_at "nf"
      refine z_asg (v := .int ((0 : Nat) : Int)) (ev_is (by walk_at "ev") (by rfl)) ?_
      walk_at "nf"
      refine zm_new (by walk_at "ea") (Nat.le_of_ble_eq_true rfl) fun l hn => ?_
      walk_at "nf"
      refine zm_setV (j := 1) hn (by walk_at "ev") (by walk_at "ev") (by walk_at "ev") (Nat.le_of_ble_eq_true rfl) ?_
      walk_at "nf"
      refine zm_setV (j := 2) hn (by walk_at "ev") (by walk_at "ev") (by walk_at "ev") (Nat.le_of_ble_eq_true rfl) ?_
      walk_at "nf"
      refine zm_setV (j := 0) hn (by walk_at "ev") (by walk_at "ev") (by walk_at "ev") (Nat.le_of_ble_eq_true rfl) ?_
      walk_at "nf"
      exact zm_retT (by walk_at "ev") k
    · refine z_asg (v := .int ((0 : Nat) : Int)) (ev_is (by walk_at "ev") (by rfl)) ?_
      walk_at "nf"
      refine z_asg (v := .int ((1 : Nat) : Int)) (ev_is (by walk_at "ev") (by rfl)) ?_
      walk_at "nf"
      refine zm_new (by walk_at "ea") (Nat.le_of_ble_eq_true rfl) fun l hn => ?_
      walk_at "nf"
      refine zm_setV (j := 2) hn (by walk_at "ev") (by walk_at "ev") (by walk_at "ev") (Nat.le_of_ble_eq_true rfl) ?_
      walk_at "nf"
      refine zm_setV (j := 0) hn (by walk_at "ev") (by walk_at "ev") (by walk_at "ev") (Nat.le_of_ble_eq_true rfl) ?_
      walk_at "nf"
      refine zm_setV (j := 1) hn (by walk_at "ev") (by walk_at "ev") (by walk_at "ev") (Nat.le_of_ble_eq_true rfl) ?_
      walk_at "nf"
      exact zm_retT (by walk_at "ev") k
def sp_shifted (K : PySem.W.Frag) : Sp := fun vs H Q _ => ∃ (a b : Addr) (p : P4) (ax n : Nat) (over under : Int), vs = [.ref a, .int (ax : Int), .ref b] ∧ SqT K H a p.vs ∧ SqT K H b [.int over, .int under] ∧ ax < 3 ∧ Bp n p ∧ n ≤ 3000 ∧ Bz 40 over ∧ Bz 40 under ∧
  Ret (IsT (shiftedM p ax over under).vs) H Q
theorem ok_shifted (T : Tx K mg) : FnOk P w K mg base CX0 1 (He.fAd K d_shifted.at_) (fd_shifted T) ["place", "axis", "value"] (sp_shifted K) := by
  refine (F_shifted T).ok sc_shifted (fun vs H Q E h => ?_) (fun cdv A outer s H vs Q E hr h => ?_)
  · obtain ⟨a, b, p, ax, n, over, under, rfl, _⟩ := h
    rfl
  · obtain ⟨a, b, p, ax, n, over, under, rfl, ha, hb, hx, ⟨b1, b2, b3, b4⟩, hn3, ho, hu, k⟩ := h
    unfold P4.vs at ha
    refine ⟨_, PSs.nox (pss_cons (ps_asg (pv 2) (pg_tupK (K := K) rfl (pgs_cons (pg_name (i := 3) sc_shifted.nd rfl (Or.inl rfl)) (pgs_cons (pg_name (i := 4) sc_shifted.nd rfl (Or.inl rfl)) pgs_nil))))
      (pss_cons (ps_set (i := 5) sc_shifted.nd rfl (Or.inl rfl) (pe_lst (pa_cons (pe_op op_mulW (pe_ix (ix_tupK (K := K)) (pv 0) pe_int (fun _ _ => rfl)) (pv 4)) (pa_cons (pe_op op_mulW (pe_ix (ix_tupK (K := K)) (pv 0) pe_int (fun _ _ => rfl)) (pv 4)) (pa_cons (pe_op op_mulW (pe_ix (ix_tupK (K := K)) (pv 0) pe_int (fun _ _ => rfl)) (pv 4)) (pa_cons (pe_op op_mulW (pe_ix (ix_tupK (K := K)) (pv 0) pe_int (fun _ _ => rfl)) (pv 4)) pa_nil))))))
      (pss_cons (ps_asg (pe_op op_add (pe_ix (ix_listK (K := K)) (pv 5) (pv 1) (fun _ _ => rfl)) (pe_op op_mulW (pv 3) (pe_ix (ix_tupK (K := K)) (pv 0) pe_int (fun _ _ => rfl)))) (pg_sub (pv 5) (pv 1) set_list))
      (pss_one (ps_ret (pe_callTy (k_tupK (K := K)) rfl (gf_tuple T) (by decide +kernel) (pa_cons (pv 5) pa_nil))))))), ?_⟩
    walk_at "n0"
    refine EvS.go ?_
    refine z_unpack2 (by walk_at "ev") hb ?_
    walk_at "nf"
    refine zm_new (by walk_at "ea") (Nat.le_of_ble_eq_true rfl) fun l hn => ?_
    walk_at "nf"
    rcases (by omega : ax = 0 ∨ ax = 1 ∨ ax = 2) with rfl | rfl | rfl
    · refine zm_set (r := tC .non) (j := 0) hn (fun H1 e hl => by have ha := ex_t e ha; have hl := sq_of (K := K) hl; walk_at "ev") (by walk_at "ev") (by walk_at "ev") (Nat.le_of_ble_eq_true rfl) ?_
      walk_at "nf"
      exact zm_retT (by walk_at "ev") k
    · refine zm_set (r := tC .non) (j := 1) hn (fun H1 e hl => by have ha := ex_t e ha; have hl := sq_of (K := K) hl; walk_at "ev") (by walk_at "ev") (by walk_at "ev") (Nat.le_of_ble_eq_true rfl) ?_
      walk_at "nf"
      exact zm_retT (by walk_at "ev") k
    · refine zm_set (r := tC .non) (j := 2) hn (fun H1 e hl => by have ha := ex_t e ha; have hl := sq_of (K := K) hl; walk_at "ev") (by walk_at "ev") (by walk_at "ev") (Nat.le_of_ble_eq_true rfl) ?_
      walk_at "nf"
      exact zm_retT (by walk_at "ev") k
def sp_added (K : PySem.W.Frag) : Sp := fun vs H Q _ => ∃ (a b : Addr) (p o : P4) (n m : Nat), vs = [.ref a, .ref b] ∧ SqT K H a p.vs ∧ SqT K H b o.vs ∧ Bp n p ∧ n ≤ 3000 ∧ Bp m o ∧ m ≤ 3000 ∧ Ret (IsT (addedM p o).vs) H Q
theorem ok_added (T : Tx K mg) : FnOk P w K mg base CX0 1 (He.fAd K d_added.at_) (fd_added T) ["place", "other"] (sp_added K) := by
  refine (F_added T).ok sc_added (fun vs H Q E h => ?_) (fun cdv A outer s H vs Q E hr h => ?_)
  · obtain ⟨a, b, p, o, n, m, rfl, _⟩ := h
    rfl
  · obtain ⟨a, b, p, o, n, m, rfl, ha, hb, ⟨b1, b2, b3, b4⟩, hn3, ⟨c1, c2, c3, c4⟩, hm3, k⟩ := h
    unfold P4.vs at ha hb
    refine ⟨_, PSs.nox (pss_cons (ps_setLc (i := 2) (own := [("k", 3)]) (g := (gName 3)) (tt := tYes) rfl sc_added.nd rfl rfl (sw_true rfl rfl rfl (by decide +kernel)) (pi_range1 rfl (gf_range T) (pa_cons pe_int pa_nil)) (blkOk_by (own := [("k", 3)]) (N := ["place", "other", "sums", "k"]) (sc := defScope s_added) (by decide +kernel)) (fun _ _ _ _ _ => (pg_name (i := 3) sc_added.nd rfl (Or.inl rfl))) (fun _ _ _ _ _ => pts_nil) (fun _ _ _ _ _ => (pe_op op_add (pe_op op_mulW (pe_ix (ix_tupK (K := K)) (pv 0) (pv 3) (fun _ _ => rfl)) (pe_ix (ix_tupK (K := K)) (pv 1) pe_int (fun _ _ => rfl))) (pe_op op_mulW (pe_ix (ix_tupK (K := K)) (pv 1) (pv 3) (fun _ _ => rfl)) (pe_ix (ix_tupK (K := K)) (pv 0) pe_int (fun _ _ => rfl))))))
      (pss_one (ps_ret (pe_tup (pa_cons (pe_ix (ix_listK (K := K)) (pv 2) pe_int (fun _ _ => rfl)) (pa_cons (pe_ix (ix_listK (K := K)) (pv 2) pe_int (fun _ _ => rfl)) (pa_cons (pe_ix (ix_listK (K := K)) (pv 2) pe_int (fun _ _ => rfl)) (pa_cons (pe_op op_mulW (pe_ix (ix_tupK (K := K)) (pv 0) pe_int (fun _ _ => rfl)) (pe_ix (ix_tupK (K := K)) (pv 1) pe_int (fun _ _ => rfl))) pa_nil)))))))), ?_⟩
    walk_at "n0"
    refine EvS.go ?_
    refine z_asgP (ep_lcRi (fun i => .int (p.l.getD i 0 * o.w + o.l.getD i 0 * p.w)) (by walk_at "ea") (by decide) (fun _ => rfl) fun i hi => ?_) fun v H1 e hv => ?_
    · walk_at "nf"
      rcases (by omega : i = 0 ∨ i = 1 ∨ i = 2) with rfl | rfl | rfl
      · exact ev_is (by walk_at "ev") (by rfl)
      · exact ev_is (by walk_at "ev") (by rfl)
      · exact ev_is (by walk_at "ev") (by rfl)
    · obtain ⟨q, rfl, hq⟩ := hv
      have hq := sq_of (K := K) hq
      have ha := ex_t e ha
      have hb := ex_t e hb
      walk_at "nf"
      refine z_ret (ep_tupV (by walk_at "ea") (Nat.le_of_ble_eq_true rfl)) ?_
      exact k.mono e
end
/-! The objects, as they stand in the heap. -/
def fJoint (j : JointD) (o : Addr) : List (Str × V) := [("turns", .bl j.turns), ("axis", .int (j.axis : Int)), ("offset", .ref o), ("least", .int j.least), ("most", .int j.most), ("box", .int j.box), ("error", .int j.error), ("speed", .int 1), ("accel", .int 1), ("brake", .int 1)]
def fBody (b : BodyD) (o1 o2 : Addr) : List (Str × V) := [("first", .ref o1), ("last", .ref o2), ("radius", .int b.radius)]
def fCap (n : Nat) (bv : V) : List (Str × V) := [("link", .int (n : Int)), ("body", bv)]
def fArm (tj tc tb : Addr) : List (Str × V) := [("joints", .ref tj), ("capsules", .ref tc), ("beside", .ref tb)]
def fMove (t1 t2 : Addr) : List (Str × V) := [("first", .ref t1), ("last", .ref t2)]
def fMover (av mv : V) (th : Addr) : List (Str × V) := [("arm", av), ("move", mv), ("held", .ref th)]
def fMatter (mv : V) : List (Str × V) := [("kind", .str "self"), ("mover", mv), ("other", .non)]
/-- a tuple, of the i-th item P i -/
def RTp (K : PySem.W.Frag) (n : Nat) (P : Nat → VP) (a : Addr) (H : Hp) : Prop := ∃ ys, SqT K H a ys ∧ ys.length = n ∧ ∀ (i : Nat) y, ys[i]? = some y → P i y H
def JointAt (K : PySem.W.Frag) (j : JointD) : VP := fun v H => ∃ a dx o, v = .ref a ∧ H a = some (.ins (He.ga K "Joint") dx (fJoint j o)) ∧ SqT K H o j.offset.vs
def BodyAt (K : PySem.W.Frag) (b : BodyD) : VP := fun v H => ∃ a dx o1 o2, v = .ref a ∧ H a = some (.ins (He.ga K "Body") dx (fBody b o1 o2)) ∧ SqT K H o1 b.first.vs ∧ SqT K H o2 b.last.vs
def CapAt (K : PySem.W.Frag) (c : Nat × BodyD) : VP := fun v H => ∃ a dx bv, v = .ref a ∧ H a = some (.ins (He.ga K "Capsule") dx (fCap c.1 bv)) ∧ BodyAt K c.2 bv H
structure ArmD where
  joints : List JointD
  caps : List (Nat × BodyD)
  beside : List (Int × Int)
def PairAt (K : PySem.W.Frag) (q : Int × Int) : VP := RdT K [.int q.1, .int q.2]
def ArmAt (K : PySem.W.Frag) (A : ArmD) : VP := fun v H => ∃ a dx tj tc tb, v = .ref a ∧ H a = some (.ins (He.ga K "Arm") dx (fArm tj tc tb)) ∧ RTp K A.joints.length (fun i => JointAt K (A.joints.getD i default)) tj H ∧
  RTp K A.caps.length (fun i => CapAt K (A.caps.getD i default)) tc H ∧ RTp K A.beside.length (fun i => PairAt K (A.beside.getD i default)) tb H
def MoveAt (K : PySem.W.Frag) (f l : List Int) : VP := fun v H => ∃ a dx t1 t2, v = .ref a ∧ H a = some (.ins (He.ga K "Move") dx (fMove t1 t2)) ∧ SqT K H t1 (f.map V.int) ∧ SqT K H t2 (l.map V.int)
structure MoverD where
  arm : ArmD
  first : List Int
  last : List Int
  held : List BodyD
def MoverAt (K : PySem.W.Frag) (M : MoverD) : VP := fun v H => ∃ a dx av mv th, v = .ref a ∧ H a = some (.ins (He.ga K "Mover") dx (fMover av mv th)) ∧ ArmAt K M.arm av H ∧ MoveAt K M.first M.last mv H ∧ RTp K M.held.length (fun i => BodyAt K (M.held.getD i default)) th H
def MatterAt (K : PySem.W.Frag) (M : MoverD) : VP := fun v H => ∃ a dx mv, v = .ref a ∧ H a = some (.ins (He.ga K "Matter") dx (fMatter mv)) ∧ MoverAt K M mv H
section
variable {K : PySem.W.Frag} {mg : Str → Option Value} {σ : L2.St} {H H' : Hp} {ta : TE} {v : V}
theorem RTp.z {n : Nat} {P : Nat → VP} {a : Addr} (hP : ∀ i, UpZ K (P i)) (e : Ez K H H') (h : RTp K n P a H) : RTp K n P a H' := let ⟨ys, a, b, c⟩ := h; ⟨ys, e.sqt a, b, fun i y q => hP i y _ _ e (c i y q)⟩
theorem z_Joint (T : Tx K mg) (j : JointD) : UpZ K (JointAt K j) := fun _ _ _ e ⟨a, dx, o, r, h, q⟩ => ⟨a, dx, o, r, e.ins h (ne_Joint T), e.sqt q⟩
theorem z_Body (T : Tx K mg) (b : BodyD) : UpZ K (BodyAt K b) := fun _ _ _ e ⟨a, dx, o1, o2, r, h, q1, q2⟩ => ⟨a, dx, o1, o2, r, e.ins h (ne_Body T), e.sqt q1, e.sqt q2⟩
theorem z_Cap (T : Tx K mg) (c : Nat × BodyD) : UpZ K (CapAt K c) := fun _ _ _ e ⟨a, dx, bv, r, h, q⟩ => ⟨a, dx, bv, r, e.ins h (ne_Capsule T), z_Body T _ _ _ _ e q⟩
theorem z_Pair (q : Int × Int) : UpZ K (PairAt K q) := upz_rdT
theorem z_Arm (T : Tx K mg) (A : ArmD) : UpZ K (ArmAt K A) := fun _ _ _ e ⟨a, dx, tj, tc, tb, r, h, q1, q2, q3⟩ =>
  ⟨a, dx, tj, tc, tb, r, e.ins h (ne_Arm T), q1.z (fun i => z_Joint T _) e, q2.z (fun i => z_Cap T _) e, q3.z (fun i => z_Pair _) e⟩
theorem z_Move (T : Tx K mg) (f l : List Int) : UpZ K (MoveAt K f l) := fun _ _ _ e ⟨a, dx, t1, t2, r, h, q1, q2⟩ => ⟨a, dx, t1, t2, r, e.ins h (ne_Move T), e.sqt q1, e.sqt q2⟩
theorem z_Mover (T : Tx K mg) (M : MoverD) : UpZ K (MoverAt K M) := fun _ _ _ e ⟨a, dx, av, mv, th, r, h, q1, q2, q3⟩ =>
  ⟨a, dx, av, mv, th, r, e.ins h (ne_Mover T), z_Arm T _ _ _ _ e q1, z_Move T _ _ _ _ _ e q2, q3.z (fun i => z_Body T _) e⟩
theorem z_Matter (T : Tx K mg) (M : MoverD) : UpZ K (MatterAt K M) := fun _ _ _ e ⟨a, dx, mv, r, h, q⟩ => ⟨a, dx, mv, r, e.ins h (ne_Matter T), z_Mover T _ _ _ _ e q⟩
theorem ev_Joint_turns (T : Tx K mg) {j : JointD} (h : Ev ta σ H v) (hj : JointAt K j v H) : Ev (tFld K ta "turns") σ H (.bl j.turns) := by
  obtain ⟨a, dx, _, e, q, _⟩ := hj
  subst e
  exact ev_fld h q (c_Joint T) (n_Joint_turns T) rfl
theorem ev_Joint_axis (T : Tx K mg) {j : JointD} (h : Ev ta σ H v) (hj : JointAt K j v H) : Ev (tFld K ta "axis") σ H (.int (j.axis : Int)) := by
  obtain ⟨a, dx, _, e, q, _⟩ := hj
  subst e
  exact ev_fld h q (c_Joint T) (n_Joint_axis T) rfl
theorem ev_Joint_least (T : Tx K mg) {j : JointD} (h : Ev ta σ H v) (hj : JointAt K j v H) : Ev (tFld K ta "least") σ H (.int j.least) := by
  obtain ⟨a, dx, _, e, q, _⟩ := hj
  subst e
  exact ev_fld h q (c_Joint T) (n_Joint_least T) rfl
theorem ev_Joint_most (T : Tx K mg) {j : JointD} (h : Ev ta σ H v) (hj : JointAt K j v H) : Ev (tFld K ta "most") σ H (.int j.most) := by
  obtain ⟨a, dx, _, e, q, _⟩ := hj
  subst e
  exact ev_fld h q (c_Joint T) (n_Joint_most T) rfl
theorem ev_Joint_box (T : Tx K mg) {j : JointD} (h : Ev ta σ H v) (hj : JointAt K j v H) : Ev (tFld K ta "box") σ H (.int j.box) := by
  obtain ⟨a, dx, _, e, q, _⟩ := hj
  subst e
  exact ev_fld h q (c_Joint T) (n_Joint_box T) rfl
theorem ev_Joint_error (T : Tx K mg) {j : JointD} (h : Ev ta σ H v) (hj : JointAt K j v H) : Ev (tFld K ta "error") σ H (.int j.error) := by
  obtain ⟨a, dx, _, e, q, _⟩ := hj
  subst e
  exact ev_fld h q (c_Joint T) (n_Joint_error T) rfl
theorem ev_Joint_speed (T : Tx K mg) {j : JointD} (h : Ev ta σ H v) (hj : JointAt K j v H) : Ev (tFld K ta "speed") σ H (.int 1) := by
  obtain ⟨a, dx, _, e, q, _⟩ := hj
  subst e
  exact ev_fld h q (c_Joint T) (n_Joint_speed T) rfl
theorem ev_Joint_accel (T : Tx K mg) {j : JointD} (h : Ev ta σ H v) (hj : JointAt K j v H) : Ev (tFld K ta "accel") σ H (.int 1) := by
  obtain ⟨a, dx, _, e, q, _⟩ := hj
  subst e
  exact ev_fld h q (c_Joint T) (n_Joint_accel T) rfl
theorem ev_Joint_brake (T : Tx K mg) {j : JointD} (h : Ev ta σ H v) (hj : JointAt K j v H) : Ev (tFld K ta "brake") σ H (.int 1) := by
  obtain ⟨a, dx, _, e, q, _⟩ := hj
  subst e
  exact ev_fld h q (c_Joint T) (n_Joint_brake T) rfl
theorem ev_Body_radius (T : Tx K mg) {b : BodyD} (h : Ev ta σ H v) (hj : BodyAt K b v H) : Ev (tFld K ta "radius") σ H (.int b.radius) := by
  obtain ⟨a, dx, _, _, e, q, _⟩ := hj
  subst e
  exact ev_fld h q (c_Body T) (n_Body_radius T) rfl
theorem ev_Capsule_link (T : Tx K mg) {c : Nat × BodyD} (h : Ev ta σ H v) (hj : CapAt K c v H) : Ev (tFld K ta "link") σ H (.int (c.1 : Int)) := by
  obtain ⟨a, dx, _, e, q, _⟩ := hj
  subst e
  exact ev_fld h q (c_Capsule T) (n_Capsule_link T) rfl
theorem ev_Matter_kind (T : Tx K mg) {M : MoverD} (h : Ev ta σ H v) (hj : MatterAt K M v H) : Ev (tFld K ta "kind") σ H (.str "self") := by
  obtain ⟨a, dx, _, e, q, _⟩ := hj
  subst e
  exact ev_fld h q (c_Matter T) (n_Matter_kind T) rfl
theorem ev_Joint_offset (T : Tx K mg) {a dx : Addr} {j : JointD} {o : Addr} (h : Ev ta σ H (.ref a)) (q : H a = some (.ins (He.ga K "Joint") dx (fJoint j o))) : Ev (tFld K ta "offset") σ H (.ref o) := ev_fld h q (c_Joint T) (n_Joint_offset T) rfl
theorem ev_Body_first (T : Tx K mg) {a dx : Addr} {b : BodyD} {o1 o2 : Addr} (h : Ev ta σ H (.ref a)) (q : H a = some (.ins (He.ga K "Body") dx (fBody b o1 o2))) : Ev (tFld K ta "first") σ H (.ref o1) := ev_fld h q (c_Body T) (n_Body_first T) rfl
theorem ev_Body_last (T : Tx K mg) {a dx : Addr} {b : BodyD} {o1 o2 : Addr} (h : Ev ta σ H (.ref a)) (q : H a = some (.ins (He.ga K "Body") dx (fBody b o1 o2))) : Ev (tFld K ta "last") σ H (.ref o2) := ev_fld h q (c_Body T) (n_Body_last T) rfl
theorem ev_Capsule_body (T : Tx K mg) {a dx : Addr} {n : Nat} {bv : V} (h : Ev ta σ H (.ref a)) (q : H a = some (.ins (He.ga K "Capsule") dx (fCap n bv))) : Ev (tFld K ta "body") σ H (bv) := ev_fld h q (c_Capsule T) (n_Capsule_body T) rfl
theorem ev_Arm_joints (T : Tx K mg) {a dx : Addr} {tj tc tb : Addr} (h : Ev ta σ H (.ref a)) (q : H a = some (.ins (He.ga K "Arm") dx (fArm tj tc tb))) : Ev (tFld K ta "joints") σ H (.ref tj) := ev_fld h q (c_Arm T) (n_Arm_joints T) rfl
theorem ev_Arm_capsules (T : Tx K mg) {a dx : Addr} {tj tc tb : Addr} (h : Ev ta σ H (.ref a)) (q : H a = some (.ins (He.ga K "Arm") dx (fArm tj tc tb))) : Ev (tFld K ta "capsules") σ H (.ref tc) := ev_fld h q (c_Arm T) (n_Arm_capsules T) rfl
theorem ev_Arm_beside (T : Tx K mg) {a dx : Addr} {tj tc tb : Addr} (h : Ev ta σ H (.ref a)) (q : H a = some (.ins (He.ga K "Arm") dx (fArm tj tc tb))) : Ev (tFld K ta "beside") σ H (.ref tb) := ev_fld h q (c_Arm T) (n_Arm_beside T) rfl
theorem ev_Move_first (T : Tx K mg) {a dx : Addr} {t1 t2 : Addr} (h : Ev ta σ H (.ref a)) (q : H a = some (.ins (He.ga K "Move") dx (fMove t1 t2))) : Ev (tFld K ta "first") σ H (.ref t1) := ev_fld h q (c_Move T) (n_Move_first T) rfl
theorem ev_Move_last (T : Tx K mg) {a dx : Addr} {t1 t2 : Addr} (h : Ev ta σ H (.ref a)) (q : H a = some (.ins (He.ga K "Move") dx (fMove t1 t2))) : Ev (tFld K ta "last") σ H (.ref t2) := ev_fld h q (c_Move T) (n_Move_last T) rfl
theorem ev_Mover_arm (T : Tx K mg) {a dx : Addr} {av mv : V} {th : Addr} (h : Ev ta σ H (.ref a)) (q : H a = some (.ins (He.ga K "Mover") dx (fMover av mv th))) : Ev (tFld K ta "arm") σ H (av) := ev_fld h q (c_Mover T) (n_Mover_arm T) rfl
theorem ev_Mover_move (T : Tx K mg) {a dx : Addr} {av mv : V} {th : Addr} (h : Ev ta σ H (.ref a)) (q : H a = some (.ins (He.ga K "Mover") dx (fMover av mv th))) : Ev (tFld K ta "move") σ H (mv) := ev_fld h q (c_Mover T) (n_Mover_move T) rfl
theorem ev_Mover_held (T : Tx K mg) {a dx : Addr} {av mv : V} {th : Addr} (h : Ev ta σ H (.ref a)) (q : H a = some (.ins (He.ga K "Mover") dx (fMover av mv th))) : Ev (tFld K ta "held") σ H (.ref th) := ev_fld h q (c_Mover T) (n_Mover_held T) rfl
theorem ev_Matter_mover (T : Tx K mg) {a dx : Addr} {mv : V} (h : Ev ta σ H (.ref a)) (q : H a = some (.ins (He.ga K "Matter") dx (fMatter mv))) : Ev (tFld K ta "mover") σ H (mv) := ev_fld h q (c_Matter T) (n_Matter_mover T) rfl
end
/-! Where places are. -/
local macro_rules | `(tactic| walk_at "evf") => `(tactic| first
  | ((with_reducible apply ev_Joint_turns); assumption; (walk_at "ev"); assumption)
  | ((with_reducible apply ev_Joint_axis); assumption; (walk_at "ev"); assumption)
  | ((with_reducible apply ev_Joint_least); assumption; (walk_at "ev"); assumption)
  | ((with_reducible apply ev_Joint_most); assumption; (walk_at "ev"); assumption)
  | ((with_reducible apply ev_Joint_box); assumption; (walk_at "ev"); assumption)
  | ((with_reducible apply ev_Joint_error); assumption; (walk_at "ev"); assumption)
  | ((with_reducible apply ev_Joint_speed); assumption; (walk_at "ev"); assumption)
  | ((with_reducible apply ev_Joint_accel); assumption; (walk_at "ev"); assumption)
  | ((with_reducible apply ev_Joint_brake); assumption; (walk_at "ev"); assumption)
  | ((with_reducible apply ev_Body_radius); assumption; (walk_at "ev"); assumption)
  | ((with_reducible apply ev_Capsule_link); assumption; (walk_at "ev"); assumption)
  | ((with_reducible apply ev_Matter_kind); assumption; (walk_at "ev"); assumption)
  | ((with_reducible apply ev_Joint_offset); assumption; (walk_at "ev"); assumption)
  | ((with_reducible apply ev_Body_first); assumption; (walk_at "ev"); assumption)
  | ((with_reducible apply ev_Body_last); assumption; (walk_at "ev"); assumption)
  | ((with_reducible apply ev_Capsule_body); assumption; (walk_at "ev"); assumption)
  | ((with_reducible apply ev_Arm_joints); assumption; (walk_at "ev"); assumption)
  | ((with_reducible apply ev_Arm_capsules); assumption; (walk_at "ev"); assumption)
  | ((with_reducible apply ev_Arm_beside); assumption; (walk_at "ev"); assumption)
  | ((with_reducible apply ev_Move_first); assumption; (walk_at "ev"); assumption)
  | ((with_reducible apply ev_Move_last); assumption; (walk_at "ev"); assumption)
  | ((with_reducible apply ev_Mover_arm); assumption; (walk_at "ev"); assumption)
  | ((with_reducible apply ev_Mover_move); assumption; (walk_at "ev"); assumption)
  | ((with_reducible apply ev_Mover_held); assumption; (walk_at "ev"); assumption)
  | ((with_reducible apply ev_Matter_mover); assumption; (walk_at "ev"); assumption))
section
variable {P : Program} {w : World} {K : PySem.W.Frag} {mg : Str → Option Value} {base : Heap}
def sp_is_within (K : PySem.W.Frag) : Sp := fun vs H Q _ => ∃ (a : Addr) (u : I3) (m : Int), vs = [.ref a, .int m] ∧ SqT K H a u.vs ∧ Ret (fun x _ => x = .bl (decide (max2 (max2 (absI u.x) (absI u.y)) (absI u.z) ≤ m))) H Q
theorem ok_is_within (T : Tx K mg) : FnOk P w K mg base CX0 1 (He.fAd K d_is_within.at_) (fd_is_within T) ["vector", "most"] (sp_is_within K) := by
  refine (F_is_within T).ok sc_is_within (fun vs H Q E h => ?_) (fun cdv A outer s H vs Q E hr h => ?_)
  · obtain ⟨a, u, m, rfl, _⟩ := h
    rfl
  · obtain ⟨a, u, m, rfl, ha, k⟩ := h
    unfold I3.vs at ha
    refine ⟨_, PSs.nox (pss_one (ps_ret (pe_cmpR op_le (pe_callB (k_max3 rfl) rfl (gf_max T) (by decide +kernel) (pa_cons (pe_callB k_abs rfl (gf_abs T) (by decide +kernel) (pa_cons (pe_ix (ix_tupK (K := K)) (pv 0) pe_int (fun _ _ => rfl)) pa_nil)) (pa_cons (pe_callB k_abs rfl (gf_abs T) (by decide +kernel) (pa_cons (pe_ix (ix_tupK (K := K)) (pv 0) pe_int (fun _ _ => rfl)) pa_nil)) (pa_cons (pe_callB k_abs rfl (gf_abs T) (by decide +kernel) (pa_cons (pe_ix (ix_tupK (K := K)) (pv 0) pe_int (fun _ _ => rfl)) pa_nil)) pa_nil)))) (pv 1) (nomark _)))), ?_⟩
    walk_at "n0"
    refine EvS.go ?_
    refine z_retV (by walk_at "ev") fun H1 e => k _ H1 e ?_
    rfl
/-- a list, of the i-th item P i -/
def RLp (K : PySem.W.Frag) (n : Nat) (P : Nat → VP) (a : Addr) (H : Hp) : Prop := ∃ ys, SqL K H a ys ∧ ys.length = n ∧ ∀ (i : Nat) y, ys[i]? = some y → P i y H
theorem RLp.up {n : Nat} {P : Nat → VP} {a : Addr} {H H' : Hp} (hP : ∀ i, Up (P i)) (e : Ex H H') (h : RLp K n P a H) : RLp K n P a H' := let ⟨ys, a, b, c⟩ := h; ⟨ys, ex_l e a, b, fun i y q => hP i y _ _ e (c i y q)⟩
theorem RLp.at {n k : Nat} {P : Nat → VP} {a : Addr} {H : Hp} (h : RLp K n P a H) (hk : k < n) : ∃ ys v, SqL K H a ys ∧ atI ys (k : Int) = some v ∧ P k v H := by
  obtain ⟨ys, h1, h2, h3⟩ := h
  have hy : ys[k]? = some ys[k] := List.getElem?_eq_getElem (by omega)
  exact ⟨ys, ys[k], h1, atI_nat hy, h3 k _ hy⟩
theorem RTp.at {n k : Nat} {P : Nat → VP} {a : Addr} {H : Hp} (h : RTp K n P a H) (hk : k < n) : ∃ ys v, SqT K H a ys ∧ atI ys (k : Int) = some v ∧ P k v H := by
  obtain ⟨ys, h1, h2, h3⟩ := h
  have hy : ys[k]? = some ys[k] := List.getElem?_eq_getElem (by omega)
  exact ⟨ys, ys[k], h1, atI_nat hy, h3 k _ hy⟩
theorem RTp.up {n : Nat} {P : Nat → VP} {a : Addr} {H H' : Hp} (hP : ∀ i, Up (P i)) (e : Ex H H') (h : RTp K n P a H) : RTp K n P a H' := let ⟨ys, a, b, c⟩ := h; ⟨ys, ex_t e a, b, fun i y q => hP i y _ _ e (c i y q)⟩
/-! sizes on the way -/
theorem Bp.turned {n : Nat} {p : P4} {ax : Nat} {over under : Int} (h : Bp n p) (ho : Bz 40 over) (hu : Bz 40 under) : Bp (n + 145) (turnedM p ax over under) := by
  obtain ⟨b1, b2, b3, b4⟩ := h
  have up : ∀ {a : Nat} {i : Int}, Bz a i → a ≤ n + 145 → Bz (n + 145) i := fun h q => bz_mono h q
  have h1 : Bz 81 (under * under - over * over) := bz_mono (bz_sub (bz_mul hu hu) (bz_mul ho ho)) (by decide)
  have h2 : Bz 144 (2 * over * under) := bz_mono (bz_mul (bz_mul (bz_lit (by decide)) ho) hu) (by decide)
  have h3 : Bz 81 (under * under + over * over) := bz_mono (bz_add (bz_mul hu hu) (bz_mul ho ho)) (by decide)
  unfold turnedM
  dsimp only
  split
  · exact ⟨up (bz_mul b1 h3) (by omega), up (bz_sub (bz_mul b2 h1) (bz_mul b3 h2)) (by omega), up (bz_add (bz_mul b2 h2) (bz_mul b3 h1)) (by omega), up (bz_mul b4 h3) (by omega)⟩
  · split
    · exact ⟨up (bz_add (bz_mul b3 h2) (bz_mul b1 h1)) (by omega), up (bz_mul b2 h3) (by omega), up (bz_sub (bz_mul b3 h1) (bz_mul b1 h2)) (by omega), up (bz_mul b4 h3) (by omega)⟩
    · exact ⟨up (bz_sub (bz_mul b1 h1) (bz_mul b2 h2)) (by omega), up (bz_add (bz_mul b1 h2) (bz_mul b2 h1)) (by omega), up (bz_mul b3 h3) (by omega), up (bz_mul b4 h3) (by omega)⟩
theorem Bp.shifted {n : Nat} {p : P4} {ax : Nat} {over under : Int} (h : Bp n p) (ho : Bz 40 over) (hu : Bz 40 under) : Bp (n + 145) (shiftedM p ax over under) := by
  obtain ⟨b1, b2, b3, b4⟩ := h
  have up : ∀ {a : Nat} {i : Int}, Bz a i → a ≤ n + 145 → Bz (n + 145) i := fun h q => bz_mono h q
  unfold shiftedM
  split
  · exact ⟨up (bz_add (bz_mul b1 hu) (bz_mul ho b4)) (by omega), up (bz_mul b2 hu) (by omega), up (bz_mul b3 hu) (by omega), up (bz_mul b4 hu) (by omega)⟩
  · split
    · exact ⟨up (bz_mul b1 hu) (by omega), up (bz_add (bz_mul b2 hu) (bz_mul ho b4)) (by omega), up (bz_mul b3 hu) (by omega), up (bz_mul b4 hu) (by omega)⟩
    · exact ⟨up (bz_mul b1 hu) (by omega), up (bz_mul b2 hu) (by omega), up (bz_add (bz_mul b3 hu) (bz_mul ho b4)) (by omega), up (bz_mul b4 hu) (by omega)⟩
theorem Bp.moved {n : Nat} {p : P4} {j : JointD} {v : Int × Int} (h : Bp n p) (ho : Bz 40 v.1) (hu : Bz 20 v.2) : Bp (n + 145) (movedM j v p) := by
  unfold movedM
  have hu2 : Bz 40 (v.2 * 1000000) := bz_mono (bz_mul (b := 20) hu (show (1000000 : Int).natAbs < 2 ^ 20 by decide)) (by decide)
  split
  · exact h.turned ho hu2
  · exact h.shifted ho (bz_mono hu (by decide))
theorem Bp.added {n : Nat} {p o : P4} (h : Bp n p) (ho : Bp 30 o) : Bp (n + 31) (addedM p o) := by
  obtain ⟨b1, b2, b3, b4⟩ := h
  obtain ⟨c1, c2, c3, c4⟩ := ho
  have up : ∀ {a : Nat} {i : Int}, Bz a i → a ≤ n + 31 → Bz (n + 31) i := fun h q => bz_mono h q
  unfold addedM
  exact ⟨up (bz_add (bz_mul b1 c4) (bz_mul c1 b4)) (by omega), up (bz_add (bz_mul b2 c4) (bz_mul c2 b4)) (by omega), up (bz_add (bz_mul b3 c4) (bz_mul c3 b4)) (by omega), up (bz_mul b4 c4) (by omega)⟩
theorem Bp.reduced {n : Nat} {p : P4} (h : Bp n p) : Bp n (reducedM p) := by
  obtain ⟨b1, b2, b3, b4⟩ := h
  have q : ∀ {i : Int}, Bz n i → Bz n (i / commonM p) := fun {i} hi => Nat.lt_of_le_of_lt (Int.natAbs_ediv_le_natAbs i (commonM p)) hi
  exact ⟨q b1, q b2, q b3, q b4⟩
end
/-! true_place. -/
section
variable {P : Program} {w : World} {K : PySem.W.Frag} {mg : Str → Option Value} {base : Heap}
def FracAt (K : PySem.W.Frag) (v : Int × Int) : VP := RdT K [.int v.1, .int v.2]
def PlaceAt (K : PySem.W.Frag) (p : P4) : VP := RdT K p.vs
/-- what true_place asks of the data -/
structure TpOk (js : List JointD) (vals : List (Int × Int)) (offs : List P4) (n : Nat) : Prop where
  n6 : n ≤ 6
  nj : n ≤ js.length
  nv : n ≤ vals.length
  no : n ≤ offs.length
  ax : ∀ k, k < n → (js.getD k default).axis < 3
  v1 : ∀ k, k < n → Bz 40 (vals.getD k default).1
  v2 : ∀ k, k < n → Bz 20 (vals.getD k default).2
  vp : ∀ k, k < n → 0 < (vals.getD k default).2
  ob : ∀ k, k < n → Bp 30 (offs.getD k default)
  ow : ∀ k, k < n → 0 < (offs.getD k default).w
def sp_true_place (K : PySem.W.Frag) : Sp := fun vs H Q _ => ∃ (av : V) (vl ol pt : Addr) (A : ArmD) (vals : List (Int × Int)) (offs : List P4) (n : Nat) (u : I3), vs = [av, .ref vl, .ref ol, .int (n : Int), .ref pt] ∧ ArmAt K A av H ∧
  RLp K vals.length (fun i => FracAt K (vals.getD i default)) vl H ∧ RLp K offs.length (fun i => PlaceAt K (offs.getD i default)) ol H ∧ SqT K H pt u.vs ∧ Sm u ∧ TpOk A.joints vals offs n ∧ Ret (IsT (trueM A.joints vals offs n u.p4).vs) H Q
theorem ok_true_place (T : Tx K mg) : FnOk P w K mg base CX0 2 (He.fAd K d_true_place.at_) (fd_true_place T) ["arm", "values", "offsets", "link", "point"] (sp_true_place K) := by
  refine (F_true_place T).ok sc_true_place (fun vs H Q E h => ?_) (fun cdv A outer s H vs Q E hr h => ?_)
  · obtain ⟨av, vl, ol, pt, A, vals, offs, n, u, rfl, _⟩ := h
    rfl
  · obtain ⟨av, vl, ol, pt, A, vals, offs, n, u, rfl, hA, hV, hO, hp, hu, ok, k⟩ := h
    unfold I3.vs at hp
    refine ⟨_, PSs.nox (pss_cons (ps_set (i := 5) sc_true_place.nd rfl (Or.inl rfl) (pe_tup (pa_cons (pe_ix (ix_tupK (K := K)) (pv 4) pe_int (fun _ _ => rfl)) (pa_cons (pe_ix (ix_tupK (K := K)) (pv 4) pe_int (fun _ _ => rfl)) (pa_cons (pe_ix (ix_tupK (K := K)) (pv 4) pe_int (fun _ _ => rfl)) (pa_cons pe_int pa_nil))))))
      (pss_cons (ps_for PassesOwn.never rfl (pi_range3 rfl (gf_range T) (pa_cons (pe_op op_sub (pv 3) pe_int) (pa_cons (pe_un un_neg pe_int) (pa_cons (pe_un un_neg pe_int) pa_nil)))) (pg_name (i := 6) sc_true_place.nd rfl (Or.inl rfl)) (pss_cons (ps_set (i := 7) sc_true_place.nd rfl (Or.inl rfl) (pe_ix (ix_tupK (K := K)) (pe_fldK (K := K) (pv 0) rfl) (pv 6) (fun _ _ => rfl)))
      (pss_cons (ps_asg (pe_ix (ix_listK (K := K)) (pv 1) (pv 6) (fun _ _ => rfl)) (pg_tupK (K := K) rfl (pgs_cons (pg_name (i := 8) sc_true_place.nd rfl (Or.inl rfl)) (pgs_cons (pg_name (i := 9) sc_true_place.nd rfl (Or.inl rfl)) pgs_nil))))
      (pss_cons (ps_if (pt_val (pe_fldK (K := K) (pv 7) rfl)) (pss_one (ps_set (i := 5) sc_true_place.nd rfl (Or.inl rfl) (pe_call (ok_turned T) (hr.mono (by decide)) rfl (g_turned T) (F_turned T).kp (b_turned T) .nil pass0 (pa_cons (pv 5) (pa_cons (pe_fldK (K := K) (pv 7) rfl) (pa_cons (pe_tup (pa_cons (pv 8) (pa_cons (pe_op op_mulW (pv 9) (pe_globI rfl (gi_UNIT T))) pa_nil))) pa_nil)))))) (pss_one (ps_set (i := 5) sc_true_place.nd rfl (Or.inl rfl) (pe_call (ok_shifted T) (hr.mono (by decide)) rfl (g_shifted T) (F_shifted T).kp (b_shifted T) .nil pass0 (pa_cons (pv 5) (pa_cons (pe_fldK (K := K) (pv 7) rfl) (pa_cons (pe_tup (pa_cons (pv 8) (pa_cons (pv 9) pa_nil))) pa_nil)))))))
      (pss_one (ps_set (i := 5) sc_true_place.nd rfl (Or.inl rfl) (pe_call (ok_reduced T) (hr.mono (by decide)) rfl (g_reduced T) (F_reduced T).kp (b_reduced T) .nil pass0 (pa_cons (pe_call (ok_added T) (hr.mono (by decide)) rfl (g_added T) (F_added T).kp (b_added T) .nil pass0 (pa_cons (pv 5) (pa_cons (pe_ix (ix_listK (K := K)) (pv 2) (pv 6) (fun _ _ => rfl)) pa_nil))) pa_nil))))))))
      (pss_one (ps_ret (pv 5))))), ?_⟩
    walk_at "n0"
    refine EvS.go ?_
    refine z_asgP (ep_tupV (by walk_at "ea") (Nat.le_of_ble_eq_true rfl)) fun v H1 e hv => ?_
    walk_at "nf"
    obtain ⟨pa, rfl, hpa⟩ := hv
    have n6 := ok.n6
    refine zs_for3 (n := n) (by walk_at "ea") rfl (by omega) (fun i σ' H' => ∃ (pa : Addr) (p : P4) (x6 x7 x8 x9 : Option V), σ' = [some av, some (.ref vl), some (.ref ol), some (.int (n : Int)), some (.ref pt), some (.ref pa), x6, x7, x8, x9] ∧ Ex H H' ∧
      H' pa = some (.tup p.vs) ∧ Bp (30 + 176 * i) p ∧ 0 < p.w ∧ trueM A.joints vals offs (n - i) p = trueM A.joints vals offs n u.p4) (fun H2 e2 => ?_) (fun i σ' H' hi p B => ?_) (fun σ' H' p => ?_)
    · obtain ⟨⟨s1, s2⟩, ⟨s3, s4⟩, s5, s6⟩ := hu
      exact ⟨pa, u.p4, none, none, none, none, rfl, e.trans e2, e2 _ _ hpa, ⟨by unfold Bz I3.p4; dsimp only; omega, by unfold Bz I3.p4; dsimp only; omega, by unfold Bz I3.p4; dsimp only; omega, by show (1 : Int).natAbs < 2 ^ 30; decide⟩, Int.zero_lt_one, rfl⟩
    · obtain ⟨pa, p, x6, x7, x8, x9, rfl, e', hpa0, hb, hw, ht⟩ := p
      have hpa : SqT K H' pa p.vs := st_of hpa0
      have hk : n - 1 - i < n := by omega
      obtain ⟨a, dx, tj, tc, tb, rfl, ha, hj, hc, hbs⟩ := z_Arm T A _ _ _ (Ex.z e') hA
      obtain ⟨yj, jv, hj1, hj2, hj3⟩ := hj.at (k := n - 1 - i) (Nat.lt_of_lt_of_le hk ok.nj)
      obtain ⟨yv, fv, hv1, hv2, hv3⟩ := (hV.up (fun _ => upz_rdT.up) e').at (k := n - 1 - i) (Nat.lt_of_lt_of_le hk ok.nv)
      obtain ⟨yo, ov, ho1, ho2, ho3⟩ := (hO.up (fun _ => upz_rdT.up) e').at (k := n - 1 - i) (Nat.lt_of_lt_of_le hk ok.no)
      obtain ⟨fa, rfl, hfa⟩ := hv3
      obtain ⟨oa, rfl, hoa⟩ := ho3
      have q1 := ok.v1 _ hk
      have q2 := ok.v2 _ hk
      have qx := ok.ax _ hk
      have qo := ok.ob _ hk
      have qw := ok.ow _ hk
      have qp := ok.vp _ hk
      have hstep : n - i = (n - 1 - i) + 1 := by omega
      rw [hstep] at ht
      have ht : trueM A.joints vals offs (n - 1 - i) (stepM (A.joints.getD (n - 1 - i) default) (vals.getD (n - 1 - i) default) (offs.getD (n - 1 - i) default) p) = _ := ht
      have e6 : n - (i + 1) = n - 1 - i := by omega
      generalize n - 1 - i = kk at *
      generalize A.joints.getD kk default = jd at *
      generalize vals.getD kk default = vd at *
      generalize offs.getD kk default = od at *
      have hU : Bz 40 (vd.2 * 1000000) := bz_mono (bz_mul (b := 20) q2 (show (1000000 : Int).natAbs < 2 ^ 20 by decide)) (by decide)
      walk_at "nf"
      refine EvS.go ?_
      refine z_asg (by walk_at "ev") ?_
      walk_at "nf"
      refine z_unpack2 (by walk_at "ev") hfa ?_
      walk_at "nf"
      -- what follows the turn
      have cont : ∀ (pq : Addr) (H2 : Hp), Ex H' H2 → H2 pq = some (.tup (movedM jd vd p).vs) → EvS
          (tAsg (tCall (sp_reduced K) [] E0 (tCons (tCall (sp_added K) [] E0 (tCons (tVar 5) (tCons (tOp (rIxL K) (tVar 2) (tVar 6)) tNil))) tNil)) (gName 5))
          { nx := fun σ' H'_1 => ∃ (pa : Addr) (p : P4) (x6 x7 x8 x9 : Option V), σ' = [some (.ref a), some (.ref vl), some (.ref ol), some (.int (n : Int)), some (.ref pt), some (.ref pa), x6, x7, x8, x9] ∧ Ex H H'_1 ∧
            H'_1 pa = some (.tup p.vs) ∧ Bp (30 + 176 * (i + 1)) p ∧ 0 < p.w ∧ trueM A.joints vals offs (n - (i + 1)) p = trueM A.joints vals offs n u.p4, rt := Q, bk := B, ct := fun σ' H'_1 => ∃ (pa : Addr) (p : P4) (x6 x7 x8 x9 : Option V), σ' = [some (.ref a), some (.ref vl), some (.ref ol), some (.int (n : Int)), some (.ref pt), some (.ref pa), x6, x7, x8, x9] ∧ Ex H H'_1 ∧
            H'_1 pa = some (.tup p.vs) ∧ Bp (30 + 176 * (i + 1)) p ∧ 0 < p.w ∧ trueM A.joints vals offs (n - (i + 1)) p = trueM A.joints vals offs n u.p4 }
          [some (.ref a), some (.ref vl), some (.ref ol), some (.int (n : Int)), some (.ref pt), some (.ref pq), some (.int (kk : Int)), some jv, some (.int vd.1), some (.int vd.2)] H2 := by
        intro pq H2 e2 hq
        have ho1 := ex_l e2 ho1
        have hoa := ex_t e2 hoa
        obtain ⟨m1, m2⟩ := moved_q (j := jd) (v := vd) qp hw
        obtain ⟨a1, a2⟩ := added_q m2 qw
        obtain ⟨r1, r2⟩ := reduced_q a2
        have bm := hb.moved (j := jd) q1 q2
        have ba := bm.added qo
        refine (z_asgPl (P := IsT (stepM jd vd od p).vs) (ep_callA (epaP (P := IsT (addedM (movedM jd vd p) od).vs) (ep_call (by walk_at "ea") fun H3 e3 Q k E => ?_) up_isT epa_nil) fun vs H3 e3 hvs Q k E => ?_) fun v H3 e3 hv => ?_)
        · exact ⟨pq, oa, movedM jd vd p, od, _, 30, rfl, st_of (e3 _ _ hq), ex_t e3 hoa, bm, by omega, qo, by omega, k⟩
        · obtain ⟨x, r, rfl, ⟨xa, rfl, hx⟩, rfl⟩ := hvs
          exact ⟨xa, addedM (movedM jd vd p) od, rfl, st_of hx, a2, Nat.lt_of_lt_of_le ba.w (Nat.pow_le_pow_right (by decide) (by omega)), k⟩
        · obtain ⟨xa, rfl, hx⟩ := hv
          exact ⟨xa, stepM jd vd od p, _, _, _, _, rfl, (e'.trans e2).trans e3, hx, by
            have := (ba.reduced)
            have e : 30 + 176 * (i + 1) = 30 + 176 * i + 145 + 31 := by omega
            rw [e]
            exact this, r2, by rw [e6]; exact ht⟩
      refine z_iff (b := jd.turns) (by walk_at "et") (fun hb1 => ?_) (fun hb1 => ?_)
      · refine z_asgPl (P := IsT (movedM jd vd p).vs) (ep_callA (epa1 (by walk_at "ev") (epa1 (by walk_at "ev") (epaP (ep_tupV (by walk_at "ea") (Nat.le_of_ble_eq_true rfl)) up_isT epa_nil))) fun vs H3 e3 hvs Q k E => ?_) fun v H3 e3 hv => ?_
        · obtain ⟨r1, rfl, r2, rfl, x, r3, rfl, ⟨xa, rfl, hx⟩, rfl⟩ := hvs
          refine ⟨pa, xa, p, jd.axis, _, vd.1, vd.2 * 1000000, rfl, ex_t e3 hpa, st_of hx, qx, hb, by omega, q1, hU, ?_⟩
          unfold movedM at k
          rw [if_pos hb1] at k
          exact k
        · obtain ⟨xa, rfl, hx⟩ := hv
          exact cont xa H3 e3 hx H3 (Ex.refl H3)
      · refine z_asgPl (P := IsT (movedM jd vd p).vs) (ep_callA (epa1 (by walk_at "ev") (epa1 (by walk_at "ev") (epaP (ep_tupV (by walk_at "ea") (Nat.le_of_ble_eq_true rfl)) up_isT epa_nil))) fun vs H3 e3 hvs Q k E => ?_) fun v H3 e3 hv => ?_
        · obtain ⟨r1, rfl, r2, rfl, x, r3, rfl, ⟨xa, rfl, hx⟩, rfl⟩ := hvs
          refine ⟨pa, xa, p, jd.axis, _, vd.1, vd.2, rfl, ex_t e3 hpa, st_of hx, qx, hb, by omega, q1, bz_mono q2 (by decide), ?_⟩
          unfold movedM at k
          rw [if_neg (by rw [hb1]; decide)] at k
          exact k
        · obtain ⟨xa, rfl, hx⟩ := hv
          exact cont xa H3 e3 hx H3 (Ex.refl H3)
    · obtain ⟨pa, p, x6, x7, x8, x9, rfl, e', hpa, hb, hw, ht⟩ := p
      rw [Nat.sub_self] at ht
      have ht : p = _ := ht
      rw [← ht] at k
      refine EvS.go (z_retV (v := .ref pa) (by walk_at "ev") fun H2 e2 => ?_)
      exact k _ H2 (e'.trans e2) ⟨pa, rfl, e2 _ _ hpa⟩
end
/-! spot, unknown. -/
theorem Bp.true {js : List JointD} {vals : List (Int × Int)} {offs : List P4} : ∀ (n m : Nat) (p : P4), (∀ k, k < n → Bz 40 (vals.getD k default).1 ∧ Bz 20 (vals.getD k default).2 ∧ Bp 30 (offs.getD k default)) → Bp m p → Bp (m + 176 * n) (trueM js vals offs n p)
  | 0, m, p, _, h => h
  | n + 1, m, p, ok, h => by
    obtain ⟨q1, q2, q3⟩ := ok n (Nat.lt_succ_self n)
    have g := ((h.moved (j := js.getD n default) q1 q2).added q3).reduced
    have e : m + 176 * (n + 1) = (m + 145 + 31) + 176 * n := by omega
    rw [e]
    exact Bp.true n (m + 145 + 31) _ (fun k hk => ok k (Nat.lt_succ_of_lt hk)) g
theorem Sm.bp {u : I3} (hu : Sm u) : Bp 30 u.p4 := by
  obtain ⟨⟨s1, s2⟩, ⟨s3, s4⟩, s5, s6⟩ := hu
  exact ⟨by unfold Bz I3.p4; dsimp only; omega, by unfold Bz I3.p4; dsimp only; omega, by unfold Bz I3.p4; dsimp only; omega, by show (1 : Int).natAbs < 2 ^ 30; decide⟩
section
variable {P : Program} {w : World} {K : PySem.W.Frag} {mg : Str → Option Value} {base : Heap}
structure SpOk (js : List JointD) (row : List Int) (n : Nat) : Prop where
  n6 : n ≤ 6
  nj : n ≤ js.length
  nv : n ≤ row.length
  j6 : js.length ≤ 6
  r6 : row.length ≤ 6
  ax : ∀ k, k < n → (js.getD k default).axis < 3
  v1 : ∀ k, k < n → Bz 40 (row.getD k 0)
  ob : ∀ k, k < n → Sm (js.getD k default).offset
theorem SpOk.tp {js : List JointD} {row : List Int} {n : Nat} (h : SpOk js row n) : TpOk js (rowVals row) (toldOffs js) n where
  n6 := h.n6
  nj := h.nj
  nv := by unfold rowVals; rw [List.length_map]; exact h.nv
  no := by unfold toldOffs; rw [List.length_map]; exact h.nj
  ax := h.ax
  v1 := fun k hk => by rw [rowVals_getD (Nat.lt_of_lt_of_le hk h.nv)]; exact h.v1 k hk
  v2 := fun k hk => by rw [rowVals_getD (Nat.lt_of_lt_of_le hk h.nv)]; show (1 : Int).natAbs < 2 ^ 20; decide
  vp := fun k hk => by rw [rowVals_getD (Nat.lt_of_lt_of_le hk h.nv)]; exact Int.zero_lt_one
  ob := fun k hk => by rw [told_getD (Nat.lt_of_lt_of_le hk h.nj)]; exact (h.ob k hk).bp
  ow := fun k hk => by rw [told_getD (Nat.lt_of_lt_of_le hk h.nj)]; exact Int.zero_lt_one
def sp_spot (K : PySem.W.Frag) : Sp := fun vs H Q _ => ∃ (av : V) (rl pt : Addr) (A : ArmD) (row : List Int) (n : Nat) (u : I3), vs = [av, .ref rl, .int (n : Int), .ref pt] ∧ ArmAt K A av H ∧ SqL K H rl (row.map V.int) ∧ SqT K H pt u.vs ∧ Sm u ∧ SpOk A.joints row n ∧
  Ret (IsT (spotM A.joints row n u).vs) H Q
theorem ok_spot (T : Tx K mg) : FnOk P w K mg base CX0 3 (He.fAd K d_spot.at_) (fd_spot T) ["arm", "row", "link", "point"] (sp_spot K) := by
  refine (F_spot T).ok sc_spot (fun vs H Q E h => ?_) (fun cdv A outer s H vs Q E hr h => ?_)
  · obtain ⟨av, rl, pt, A, row, n, u, rfl, _⟩ := h
    rfl
  · obtain ⟨av, rl, pt, A, row, n, u, rfl, hA, hR, hp, hu, ok, k⟩ := h
    have tp := ok.tp
    have lt : (toldOffs A.joints).length = A.joints.length := by unfold toldOffs; rw [List.length_map]
    have lr : (rowVals row).length = row.length := by unfold rowVals; rw [List.length_map]
    obtain ⟨a, dx, tj, tc, tb, rfl, ha, ⟨yj, hj1, hj2, hj3⟩, hc, hbs⟩ := id hA
    refine ⟨_, PSs.nox (pss_cons (ps_setLc (i := 4) (own := [("joint", 6)]) (g := (gName 6)) (tt := tYes) rfl sc_spot.nd rfl rfl (sw_true rfl rfl rfl (by decide +kernel)) (pi_tupK (K := K) (pe_fldK (K := K) (pv 0) rfl)) (blkOk_by (own := [("joint", 6)]) (N := ["arm", "row", "link", "point", "offsets", "place", "joint", "value"]) (sc := defScope s_spot) (by decide +kernel)) (fun _ _ _ _ _ => (pg_name (i := 6) sc_spot.nd rfl (Or.inl rfl))) (fun _ _ _ _ _ => pts_nil) (fun _ _ _ _ _ => (pe_tup (pa_cons (pe_ix (ix_tupK (K := K)) (pe_fldK (K := K) (pv 6) rfl) pe_int (fun _ _ => rfl)) (pa_cons (pe_ix (ix_tupK (K := K)) (pe_fldK (K := K) (pv 6) rfl) pe_int (fun _ _ => rfl)) (pa_cons (pe_ix (ix_tupK (K := K)) (pe_fldK (K := K) (pv 6) rfl) pe_int (fun _ _ => rfl)) (pa_cons pe_int pa_nil)))))))
      (pss_cons (ps_set (i := 5) sc_spot.nd rfl (Or.inl rfl) (pe_call (ok_true_place T) (hr.mono (by decide)) rfl (g_true_place T) (F_true_place T).kp (b_true_place T) .nil pass0 (pa_cons (pv 0) (pa_cons (pe_lc (own := [("value", 7)]) (g := (gName 7)) (tt := tYes) rfl sc_spot.nd (pi_listK (K := K) (pv 1)) (blkOk_by (own := [("value", 7)]) (N := ["arm", "row", "link", "point", "offsets", "place", "joint", "value"]) (sc := defScope s_spot) (by decide +kernel)) (fun _ _ _ _ _ => (pg_name (i := 7) sc_spot.nd rfl (Or.inl rfl))) (fun _ _ _ _ _ => pts_nil) (fun _ _ _ _ _ => (pe_tup (pa_cons (pv 7) (pa_cons pe_int pa_nil))))) (pa_cons (pv 4) (pa_cons (pv 2) (pa_cons (pv 3) pa_nil)))))))
      (pss_one (ps_ret (pe_tup (pa_cons (pe_op op_fdivW (pe_ix (ix_tupK (K := K)) (pv 5) pe_int (fun _ _ => rfl)) (pe_ix (ix_tupK (K := K)) (pv 5) pe_int (fun _ _ => rfl))) (pa_cons (pe_op op_fdivW (pe_ix (ix_tupK (K := K)) (pv 5) pe_int (fun _ _ => rfl)) (pe_ix (ix_tupK (K := K)) (pv 5) pe_int (fun _ _ => rfl))) (pa_cons (pe_op op_fdivW (pe_ix (ix_tupK (K := K)) (pv 5) pe_int (fun _ _ => rfl)) (pe_ix (ix_tupK (K := K)) (pv 5) pe_int (fun _ _ => rfl))) pa_nil)))))))), ?_⟩
    walk_at "n0"
    refine EvS.go ?_
    refine z_asgP (ep_lcT (Pi := fun i => PlaceAt K ((toldOffs A.joints).getD i default)) (by walk_at "ev") hj1 (by have := ok.j6; omega) (fun _ => upz_rdT) (fun _ x => _) (fun i x H1 R _ _ r => r) (fun i x _ => rfl) fun i x hi => ?_) fun v H1 e hv => ?_
    · have hx : JointAt K (A.joints.getD i default) x H := hj3 i x hi
      have hlt : i < A.joints.length := by have := (List.getElem?_eq_some_iff.mp hi).1; omega
      rw [told_getD hlt]
      generalize A.joints.getD i default = jd at *
      obtain ⟨ja, jdx, jo, rfl, hx1, hx2⟩ := hx
      unfold I3.vs at hx2
      walk_at "nf"
      refine EvP.weak (ep_tupV (by walk_at "ea") (Nat.le_of_ble_eq_true rfl)) fun v H1 _ h => ?_
      exact h.rd
    · obtain ⟨ol, ys, rfl, ho1, ho2, ho3⟩ := hv
      walk_at "nf"
      have hA := z_Arm T A _ _ _ (Ex.z e) hA
      have hR := ex_l e hR
      have hp := ex_t e hp
      refine z_asgP (P := IsT (trueM A.joints (rowVals row) (toldOffs A.joints) n u.p4).vs) (ep_callA (epa1 (by walk_at "ev") (epaP (P := LsP row.length fun i => FracAt K ((rowVals row).getD i default)) (EvP.weak (ep_lcL (Pi := fun i => FracAt K ((rowVals row).getD i default)) (by walk_at "ev") hR (by rw [List.length_map]; have := ok.r6; omega) (fun _ => upz_rdT) (fun _ x => _) (fun i x H1 R _ _ r => r) (fun i x _ => rfl) fun i x hi => ?_) fun v H2 _ h => by rw [List.length_map] at h; exact h) (up_lsP fun _ => upz_rdT.up) (epa1 (by walk_at "ev") (epa1 (by walk_at "ev") (epa1 (by walk_at "ev") epa_nil))))) fun vs H2 e2 hvs Q k E => ?_) fun v H2 e2 hv => ?_
      · obtain ⟨m, hm, rfl⟩ := mapint_get hi
        have hlt : i < row.length := (List.getElem?_eq_some_iff.mp hm).1
        rw [rowVals_getD hlt]
        have e : row.getD i 0 = m := by rw [List.getD_eq_getElem?_getD, hm]; rfl
        rw [e]
        walk_at "nf"
        refine EvP.weak (ep_tupV (by walk_at "ea") (Nat.le_of_ble_eq_true rfl)) fun v H1 _ h => ?_
        exact h.rd
      · obtain ⟨r1, rfl, x, r2, rfl, ⟨vl, yv, rfl, v1, v2, v3⟩, r3, rfl, r4, rfl, r5, rfl, rfl⟩ := hvs
        refine ⟨_, vl, ol, pt, A, rowVals row, toldOffs A.joints, n, u, rfl, z_Arm T A _ _ _ (Ex.z e2) hA, ⟨yv, sq_of v1, v2.trans lr.symm, v3⟩, ⟨ys, sq_of (e2 _ _ ho1), by rw [ho2, hj2, lt], fun i y q => upz_rdT.up _ _ _ e2 (ho3 i y q)⟩, ex_t e2 hp, hu, tp, k⟩
      · obtain ⟨pa, rfl, hpa⟩ := hv
        have bt := Bp.true (js := A.joints) n 30 u.p4 (fun k hk => ⟨tp.v1 k hk, tp.v2 k hk, tp.ob k hk⟩) hu.bp
        have wt := (true_q (js := A.joints) (vals := rowVals row) (offs := toldOffs A.joints) n u.p4 (fun k hk => ⟨tp.vp k hk, tp.ow k hk⟩) Int.zero_lt_one).2
        have ek : Ret (IsT (flo (trueM A.joints (rowVals row) (toldOffs A.joints) n u.p4)).vs) H2 Q := k.mono (e.trans e2)
        generalize trueM A.joints (rowVals row) (toldOffs A.joints) n u.p4 = pq at *
        have hq : SqT K H2 pa [.int pq.x, .int pq.y, .int pq.z, .int pq.w] := st_of hpa
        have n6 := ok.n6
        have bw := bt.w
        walk_at "nf"
        refine z_ret (ep_tupV (by walk_at "ea") (Nat.le_of_ble_eq_true rfl)) ?_
        exact ek
/-! unknown -/
structure UkOk (js : List JointD) (hs : List Int) (n : Nat) : Prop where
  n6 : n ≤ 6
  nj : n ≤ js.length
  nv : n ≤ hs.length
  h1 : ∀ k, k < n → -1099511627776 < hs.getD k 0 ∧ hs.getD k 0 < 1099511627776
  e1 : ∀ k, k < n → -1099511627776 < (js.getD k default).error ∧ (js.getD k default).error < 1099511627776
  ob : ∀ k, k < n → Sm (js.getD k default).offset
def sp_unknown (K : PySem.W.Frag) : Sp := fun vs H Q _ => ∃ (av bv : V) (hl : Addr) (A : ArmD) (hs : List Int) (n : Nat) (b : BodyD), vs = [av, .ref hl, .int (n : Int), bv] ∧ ArmAt K A av H ∧ SqL K H hl (hs.map V.int) ∧ BodyAt K b bv H ∧ Sm b.first ∧ Sm b.last ∧ UkOk A.joints hs n ∧
  Ret (fun v _ => v = .int (unkM lenUp A.joints hs n b)) H Q
theorem ints_at {ns : List Int} {k : Nat} (h : k < ns.length) : atI (ns.map V.int) (k : Int) = some (.int (ns.getD k 0)) := by
  refine atI_nat ?_
  rw [List.getElem?_map, List.getElem?_eq_getElem h, List.getD_eq_getElem?_getD, List.getElem?_eq_getElem h] <;> rfl
theorem ok_unknown (T : Tx K mg) : FnOk P w K mg base CX0 3 (He.fAd K d_unknown.at_) (fd_unknown T) ["arm", "halves", "link", "body"] (sp_unknown K) := by
  refine (F_unknown T).ok sc_unknown (fun vs H Q E h => ?_) (fun cdv A outer s H vs Q E hr h => ?_)
  · obtain ⟨av, bv, hl, A, hs, n, b, rfl, _⟩ := h
    rfl
  · obtain ⟨av, bv, hl, A, hs, n, b, rfl, hA, hL, hB, s1, s2, ok, k⟩ := h
    obtain ⟨ba, bdx, o1, o2, rfl, hb1, hb2, hb3⟩ := id hB
    refine ⟨_, PSs.nox (pss_cons (ps_set (i := 4) sc_unknown.nd rfl (Or.inl rfl) pe_int)
      (pss_cons (ps_set (i := 5) sc_unknown.nd rfl (Or.inl rfl) (pe_callB (k_max2 rfl) rfl (gf_max T) (by decide +kernel) (pa_cons (pe_call (ok_length_up T) (hr.mono (by decide)) rfl (g_length_up T) (F_length_up T).kp (b_length_up T) .nil pass0 (pa_cons (pe_fldK (K := K) (pv 3) rfl) pa_nil)) (pa_cons (pe_call (ok_length_up T) (hr.mono (by decide)) rfl (g_length_up T) (F_length_up T).kp (b_length_up T) .nil pass0 (pa_cons (pe_fldK (K := K) (pv 3) rfl) pa_nil)) pa_nil))))
      (pss_cons (ps_for PassesOwn.never rfl (pi_range3 rfl (gf_range T) (pa_cons (pe_op op_sub (pv 2) pe_int) (pa_cons (pe_un un_neg pe_int) (pa_cons (pe_un un_neg pe_int) pa_nil)))) (pg_name (i := 6) sc_unknown.nd rfl (Or.inl rfl)) (pss_cons (ps_set (i := 7) sc_unknown.nd rfl (Or.inl rfl) (pe_ix (ix_tupK (K := K)) (pe_fldK (K := K) (pv 0) rfl) (pv 6) (fun _ _ => rfl)))
      (pss_cons (ps_set (i := 8) sc_unknown.nd rfl (Or.inl rfl) (pe_op op_add (pe_ix (ix_listK (K := K)) (pv 1) (pv 6) (fun _ _ => rfl)) (pe_fldK (K := K) (pv 7) rfl)))
      (pss_cons (ps_if (pt_val (pe_fldK (K := K) (pv 7) rfl)) (pss_one (ps_set (i := 4) sc_unknown.nd rfl (Or.inl rfl) (pe_op op_add (pv 4) (pe_call (ok_divide_up T) (hr.mono (by decide)) rfl (g_divide_up T) (F_divide_up T).kp (b_divide_up T) .nil pass0 (pa_cons (pe_op op_mul (pe_op op_mul pe_int (pv 5)) (pv 8)) (pa_cons (pe_globI rfl (gi_UNIT T)) pa_nil)))))) (pss_cons (ps_set (i := 4) sc_unknown.nd rfl (Or.inl rfl) (pe_op op_add (pv 4) (pv 8)))
      (pss_one (ps_set (i := 5) sc_unknown.nd rfl (Or.inl rfl) (pe_op op_add (pe_op op_add (pv 5) (pe_callB (k_max2 rfl) rfl (gf_max T) (by decide +kernel) (pa_cons (pe_callB k_abs rfl (gf_abs T) (by decide +kernel) (pa_cons (pe_fldK (K := K) (pv 7) rfl) pa_nil)) (pa_cons (pe_callB k_abs rfl (gf_abs T) (by decide +kernel) (pa_cons (pe_fldK (K := K) (pv 7) rfl) pa_nil)) pa_nil)))) (pe_fldK (K := K) (pv 7) rfl))))))
      (pss_cons (ps_set (i := 4) sc_unknown.nd rfl (Or.inl rfl) (pe_op op_add (pv 4) (pe_op op_mul pe_int (pe_fldK (K := K) (pv 7) rfl))))
      (pss_one (ps_set (i := 5) sc_unknown.nd rfl (Or.inl rfl) (pe_op op_add (pe_op op_add (pv 5) (pe_call (ok_length_up T) (hr.mono (by decide)) rfl (g_length_up T) (F_length_up T).kp (b_length_up T) .nil pass0 (pa_cons (pe_fldK (K := K) (pv 7) rfl) pa_nil))) (pe_op op_mul pe_int (pe_fldK (K := K) (pv 7) rfl))))))))))
      (pss_one (ps_ret (pv 4)))))), ?_⟩
    walk_at "n0"
    refine EvS.go ?_
    refine z_asg (by walk_at "ev") ?_
    walk_at "nf"
    refine z_asgP (ep_of (v := .int (max2 (lenUp b.first) (lenUp b.last))) (ev_cb (ea_cons (ev_of (ep_call (vs := [.ref o1]) (by walk_at "ea") fun H1 e Q k E => ?_)) (ea_cons (ev_of (ep_call (vs := [.ref o2]) (by walk_at "ea") fun H1 e Q k E => ?_)) ea_nil)) rc_max2)) fun v H1 e hv => ?_
    · exact ⟨o1, b.first, rfl, ex_t e hb2, s1, k⟩
    · exact ⟨o2, b.last, rfl, ex_t e hb3, s2, k⟩
    subst hv
    walk_at "nf"
    have n6 := ok.n6
    refine EvS.mono (Ex.refl H1) (zs_for3 (n := n) (by walk_at "ea") rfl (by omega) (fun i σ' H' => ∃ (a l : Int) (x6 x7 x8 : Option V), σ' = [some av, some (.ref hl), some (.int (n : Int)), some (.ref ba), some (.int a), some (.int l), x6, x7, x8] ∧ Ex H H' ∧
      unkGo lenUp A.joints hs (n - i) a l = unkM lenUp A.joints hs n b) (fun H2 e2 => ?_) (fun i σ' H' hi p B => ?_) (fun σ' H' p => ?_))
    · exact ⟨2, _, none, none, none, rfl, e.trans e2, rfl⟩
    · obtain ⟨a, l, x6, x7, x8, rfl, e', ht⟩ := p
      have hk : n - 1 - i < n := by omega
      obtain ⟨aa, dx, tj, tc, tb, rfl, ha, hj, hc, hbs⟩ := z_Arm T A _ _ _ (Ex.z e') hA
      obtain ⟨yj, jv, hj1, hj2, hj3⟩ := hj.at (k := n - 1 - i) (Nat.lt_of_lt_of_le hk ok.nj)
      have hL1 := ex_l e' hL
      have hL2 := ints_at (ns := hs) (k := n - 1 - i) (Nat.lt_of_lt_of_le hk ok.nv)
      have q1 := ok.h1 _ hk
      have q2 := ok.e1 _ hk
      have q3 := ok.ob _ hk
      have hstep : n - i = (n - 1 - i) + 1 := by omega
      rw [hstep] at ht
      have ht : (let j := A.joints.getD (n - 1 - i) default; let loose := hs.getD (n - 1 - i) 0 + j.error; unkGo lenUp A.joints hs (n - 1 - i) ((if j.turns then a + divUp (2 * l * loose) 1000000 else a + loose) + 2 * j.box) ((if j.turns then l else l + max2 (absI j.least) (absI j.most) + j.error) + lenUp j.offset + 2 * j.box)) = _ := ht
      have e6 : n - (i + 1) = n - 1 - i := by omega
      have hj3 : JointAt K (A.joints.getD (n - 1 - i) default) jv H' := hj3
      generalize n - 1 - i = kk at *
      generalize A.joints.getD kk default = jd at *
      generalize hs.getD kk 0 = hk0 at *
      obtain ⟨ja, jdx, jo, rfl, hx1, hx2⟩ := id hj3
      obtain ⟨q1, q1'⟩ := q1
      obtain ⟨q2, q2'⟩ := q2
      dsimp only at ht
      walk_at "nf"
      refine EvS.go ?_
      refine z_asg (by walk_at "ev") ?_
      walk_at "nf"
      refine z_asg (by walk_at "ev") ?_
      walk_at "nf"
      have cont : ∀ (a2 l2 : Int), unkGo lenUp A.joints hs kk (a2 + 2 * jd.box) (l2 + lenUp jd.offset + 2 * jd.box) = unkM lenUp A.joints hs n b → ∀ H2, Ex H' H2 → EvS
          (tSeq (tAsg (tOp (rI0 fun i j => V.int (i + j)) (tVar 4) (tOp (rI CMul fun i j => V.int (i * j)) (tC (V.int 2)) (tFld K (tVar 7) "box"))) (gName 4))
            (tAsg (tOp (rI0 fun i j => V.int (i + j)) (tOp (rI0 fun i j => V.int (i + j)) (tVar 5) (tCall (sp_length_up K) [] E0 (tCons (tFld K (tVar 7) "offset") tNil))) (tOp (rI CMul fun i j => V.int (i * j)) (tC (V.int 2)) (tFld K (tVar 7) "box"))) (gName 5)))
          { nx := fun σ' H'_1 => ∃ (a l : Int) (x6 x7 x8 : Option V), σ' = [some (.ref aa), some (.ref hl), some (.int (n : Int)), some (.ref ba), some (.int a), some (.int l), x6, x7, x8] ∧ Ex H H'_1 ∧ unkGo lenUp A.joints hs (n - (i + 1)) a l = unkM lenUp A.joints hs n b,
            rt := Q, bk := B, ct := fun σ' H'_1 => ∃ (a l : Int) (x6 x7 x8 : Option V), σ' = [some (.ref aa), some (.ref hl), some (.int (n : Int)), some (.ref ba), some (.int a), some (.int l), x6, x7, x8] ∧ Ex H H'_1 ∧ unkGo lenUp A.joints hs (n - (i + 1)) a l = unkM lenUp A.joints hs n b }
          [some (.ref aa), some (.ref hl), some (.int (n : Int)), some (.ref ba), some (.int a2), some (.int l2), some (.int (kk : Int)), some (.ref ja), some (.int (hk0 + jd.error))] H2 := by
        intro a2 l2 hg H2 e2
        have hj3 := z_Joint T jd _ _ _ (Ex.z e2) hj3
        have hx1 := e2 _ _ hx1
        have hx2 := ex_t e2 hx2
        refine z_asg (by walk_at "ev") ?_
        walk_at "nf"
        refine z_asgl (v := .int (l2 + lenUp jd.offset + 2 * jd.box)) (ev_op (ev_op (by walk_at "ev") (ev_of (ep_call (vs := [.ref jo]) (by walk_at "ea") fun H3 e3 Q k E => ?_)) rv_add) (by walk_at "ev") rv_add) fun H3 e3 => ?_
        · exact ⟨jo, jd.offset, rfl, ex_t e3 hx2, q3, k⟩
        · exact ⟨a2 + 2 * jd.box, l2 + lenUp jd.offset + 2 * jd.box, _, _, _, rfl, (e'.trans e2).trans e3, by rw [e6]; exact hg⟩
      refine z_iff (b := jd.turns) (by walk_at "et") (fun hb1 => ?_) (fun hb1 => ?_)
      · rw [if_pos hb1, if_pos hb1] at ht
        refine z_asgl (v := .int (a + divUp (2 * l * (hk0 + jd.error)) 1000000)) (ev_op (by walk_at "ev") (ev_of (ep_call (vs := [.int (2 * l * (hk0 + jd.error)), .int 1000000]) (by walk_at "ea") fun H3 e3 Q k E => ?_)) rv_add) fun H3 e3 => ?_
        · exact ⟨_, 1000000, rfl, by decide, by decide, k⟩
        · exact cont _ _ ht H3 e3 H3 (Ex.refl H3)
      · rw [if_neg (by rw [hb1]; decide), if_neg (by rw [hb1]; decide)] at ht
        refine z_asg (by walk_at "ev") ?_
        walk_at "nf"
        refine z_asgl (by walk_at "ev") fun H3 e3 => ?_
        exact cont _ _ ht H3 e3 H3 (Ex.refl H3)
    · obtain ⟨a, l, x6, x7, x8, rfl, e', ht⟩ := p
      rw [Nat.sub_self] at ht
      have ht : a = _ := ht
      rw [← ht] at k
      refine EvS.go (z_retV (by walk_at "ev") fun H2 e2 => ?_)
      exact k _ H2 (e'.trans e2) rfl
end
/-! Joints, bodies, capsules, arms are made. -/
def I3.far (u : I3) : Int := max2 (max2 (absI u.x) (absI u.y)) (absI u.z)
structure JValid (j : JointD) : Prop where
  ax : j.axis < 3
  off : j.offset.far ≤ 10000000
  lo : -(if j.turns = true then 8000000 else 10000000) ≤ j.least
  lm : j.least ≤ j.most
  hi : j.most ≤ (if j.turns = true then 8000000 else 10000000)
  b0 : 0 ≤ j.box
  b1 : j.box ≤ 100000
  e0 : 0 ≤ j.error
  e1 : j.error ≤ 100000
section
variable {P : Program} {w : World} {K : PySem.W.Frag} {mg : Str → Option Value} {base : Heap}
def sp_Joint_init (K : PySem.W.Frag) : Sp := fun vs H Q _ => ∃ (j : JointD) (o x dx : Addr) (H0 : Hp), vs = [.ref x, .bl j.turns, .int (j.axis : Int), .ref o, .int j.least, .int j.most, .int j.box, .int j.error, .int 1, .int 1, .int 1] ∧
  Ex H0 H ∧ H0 x = none ∧ H x = some (.ins (He.ga K "Joint") dx []) ∧ SqT K H0 o j.offset.vs ∧ JValid j ∧ ∀ H2, Ex H0 H2 → JointAt K j (.ref x) H2 → Q .non H2
theorem ev_within (T : Tx K mg) {σ : L2.St} {H : Hp} {ta tb : TE} {a : Addr} {u : I3} {m : Int} {E : XK} (ha : Ev ta σ H (.ref a)) (hb : Ev tb σ H (.int m)) (hu : SqT K H a u.vs) (hm : u.far ≤ m) : Ev (tCall (sp_is_within K) [] E (tCons ta (tCons tb tNil))) σ H (.bl true) := by
  refine ev_of (ep_call (vs := [.ref a, .int m]) (ea_cons ha (ea_cons hb ea_nil)) fun H1 e Q k E => ⟨a, u, m, rfl, ex_t e hu, ?_⟩)
  have e2 : (decide (max2 (max2 (absI u.x) (absI u.y)) (absI u.z) ≤ m)) = true := decide_eq_true hm
  rw [e2]
  exact k
theorem ok_Joint_init (T : Tx K mg) : FnOk P w K mg base CX0 2 (He.fAd K d_Joint_init.at_) (fd_Joint_init T) ["self", "turns", "axis", "offset", "least", "most", "box", "error", "speed", "accel", "brake"] (sp_Joint_init K) := by
  refine (F_Joint_init T).ok sc_Joint_init (fun vs H Q E h => ?_) (fun cdv A outer s H vs Q E hr h => ?_)
  · obtain ⟨j, o, x, dx, H0, rfl, _⟩ := h
    rfl
  · obtain ⟨j, o, x, dx, H0, rfl, e0, hn, hx, ho, ok, k⟩ := h
    obtain ⟨o1, o2, o3, o4, o5, o6, o7, o8, o9⟩ := id ok
    refine ⟨_, PSs.nox (pss_cons (ps_set (i := 11) sc_Joint_init.nd rfl (Or.inl rfl) (pe_ifExp (pt_val (pv 1)) (pe_globI rfl (gi_STEEP T)) (pe_globI rfl (gi_FAR T))))
      (pss_cons (ps_if (pt_cmpR (op_notInK (K := K)) (pv 2) (pe_tup (pa_cons pe_int (pa_cons pe_int (pa_cons pe_int pa_nil)))) (by rfl)) (pss_one ps_never) pss_nil)
      (pss_cons (ps_if (pt_not (pt_val (pe_call (ok_is_within T) (hr.mono (by decide)) rfl (g_is_within T) (F_is_within T).kp (b_is_within T) .nil pass0 (pa_cons (pv 3) (pa_cons (pe_globI rfl (gi_FAR T)) pa_nil))))) (pss_one ps_never) pss_nil)
      (pss_cons (ps_if (pt_not (pt_chain3 op_le op_le op_le (pe_un un_neg (pv 11)) (pv 4) (pv 5) (pv 11))) (pss_one ps_never) pss_nil)
      (pss_cons (ps_if (pt_not (pt_chain op_le op_le pe_int (pv 6) (pe_globI rfl (gi_LOOSE T)))) (pss_one ps_never) pss_nil)
      (pss_cons (ps_if (pt_not (pt_chain op_le op_le pe_int (pv 7) (pe_globI rfl (gi_LOOSE T)))) (pss_one ps_never) pss_nil)
      (pss_cons (ps_if (pt_not (pt_chain op_le op_le pe_int (pv 8) (pe_globI rfl (gi_FAST T)))) (pss_one ps_never) pss_nil)
      (pss_cons (ps_if (pt_not (pt_chain op_le op_le pe_int (pv 9) (pe_globI rfl (gi_HARD T)))) (pss_one ps_never) pss_nil)
      (pss_cons (ps_if (pt_not (pt_chain op_le op_le (pv 9) (pv 10) (pe_globI rfl (gi_HARD T)))) (pss_one ps_never) pss_nil)
      (pss_cons (ps_fldK (K := K) (pv 0) (pv 1) rfl)
      (pss_cons (ps_fldK (K := K) (pv 0) (pv 2) rfl)
      (pss_cons (ps_fldK (K := K) (pv 0) (pe_callTy (k_tupK (K := K)) rfl (gf_tuple T) (by decide +kernel) (pa_cons (pv 3) pa_nil)) rfl)
      (pss_cons (ps_fldK (K := K) (pv 0) (pv 4) rfl)
      (pss_cons (ps_fldK (K := K) (pv 0) (pv 5) rfl)
      (pss_cons (ps_fldK (K := K) (pv 0) (pv 6) rfl)
      (pss_cons (ps_fldK (K := K) (pv 0) (pv 7) rfl)
      (pss_cons (ps_fldK (K := K) (pv 0) (pv 8) rfl)
      (pss_cons (ps_fldK (K := K) (pv 0) (pv 9) rfl)
      (pss_one (ps_fldK (K := K) (pv 0) (pv 10) rfl)))))))))))))))))))), ?_⟩
    walk_at "n0"
    refine EvI.go ?_ e0 hx
    refine zi_asg (v := .int (if j.turns = true then 8000000 else 10000000)) (ev_is (by walk_at "ev") (by cases j.turns <;> rfl)) ?_
    walk_at "nf"
    generalize (if j.turns = true then (8000000 : Int) else 10000000) = bd at *
    refine zi_skip (et_is (et_test (ev_niT (by walk_at "ev") (by walk_at "ea") rfl rfl (Nat.le_of_ble_eq_true rfl))) ?_) ?_
    · rcases (by omega : j.axis = 0 ∨ j.axis = 1 ∨ j.axis = 2) with q | q | q <;> rw [q] <;> rfl
    refine zi_skip (et_is (et_not (et_B (ev_within T (by walk_at "ev") (by walk_at "ev") ho o2))) rfl) ?_
    refine zi_skip (et_is (by walk_at "et") (by rw [decide_eq_true o3, decide_eq_true o4, decide_eq_true o5] <;> rfl)) ?_
    refine zi_skip (et_is (by walk_at "et") (by rw [decide_eq_true o6, decide_eq_true o7] <;> rfl)) ?_
    refine zi_skip (et_is (by walk_at "et") (by rw [decide_eq_true o8, decide_eq_true o9] <;> rfl)) ?_
    refine zi_skip (et_is (by walk_at "et") (by rfl)) ?_
    refine zi_skip (et_is (by walk_at "et") (by rfl)) ?_
    refine zi_skip (et_is (by walk_at "et") (by rfl)) ?_
    refine zi_fld (c_Joint T) (n_Joint_turns T) hn (by walk_at "ev") (by walk_at "ev") rfl (Nat.le_of_ble_eq_true rfl) ?_
    refine zi_fld (c_Joint T) (n_Joint_axis T) hn (by walk_at "ev") (by walk_at "ev") rfl (Nat.le_of_ble_eq_true rfl) ?_
    refine zi_fld (c_Joint T) (n_Joint_offset T) hn (by walk_at "ev") (ev_cb (by walk_at "ea") (rc_tupT ho)) rfl (Nat.le_of_ble_eq_true rfl) ?_
    refine zi_fld (c_Joint T) (n_Joint_least T) hn (by walk_at "ev") (by walk_at "ev") rfl (Nat.le_of_ble_eq_true rfl) ?_
    refine zi_fld (c_Joint T) (n_Joint_most T) hn (by walk_at "ev") (by walk_at "ev") rfl (Nat.le_of_ble_eq_true rfl) ?_
    refine zi_fld (c_Joint T) (n_Joint_box T) hn (by walk_at "ev") (by walk_at "ev") rfl (Nat.le_of_ble_eq_true rfl) ?_
    refine zi_fld (c_Joint T) (n_Joint_error T) hn (by walk_at "ev") (by walk_at "ev") rfl (Nat.le_of_ble_eq_true rfl) ?_
    refine zi_fld (c_Joint T) (n_Joint_speed T) hn (by walk_at "ev") (by walk_at "ev") rfl (Nat.le_of_ble_eq_true rfl) ?_
    refine zi_fld (c_Joint T) (n_Joint_accel T) hn (by walk_at "ev") (by walk_at "ev") rfl (Nat.le_of_ble_eq_true rfl) ?_
    refine zi_fldl (c_Joint T) (n_Joint_brake T) hn (by walk_at "ev") (by walk_at "ev") rfl (Nat.le_of_ble_eq_true rfl) fun H2 e2 hx2 => ?_
    exact k H2 e2 ⟨x, dx, o, rfl, hx2, ex_t e2 ho⟩
structure BValid (b : BodyD) : Prop where
  f : b.first.far ≤ 10000000
  l : b.last.far ≤ 10000000
  r0 : 0 ≤ b.radius
  r1 : b.radius ≤ 1000000
def sp_Body_init (K : PySem.W.Frag) : Sp := fun vs H Q _ => ∃ (b : BodyD) (o1 o2 x dx : Addr) (H0 : Hp), vs = [.ref x, .ref o1, .ref o2, .int b.radius] ∧
  Ex H0 H ∧ H0 x = none ∧ H x = some (.ins (He.ga K "Body") dx []) ∧ SqT K H0 o1 b.first.vs ∧ SqT K H0 o2 b.last.vs ∧ BValid b ∧ ∀ H2, Ex H0 H2 → BodyAt K b (.ref x) H2 → Q .non H2
theorem ok_Body_init (T : Tx K mg) : FnOk P w K mg base CX0 2 (He.fAd K d_Body_init.at_) (fd_Body_init T) ["self", "first", "last", "radius"] (sp_Body_init K) := by
  refine (F_Body_init T).ok sc_Body_init (fun vs H Q E h => ?_) (fun cdv A outer s H vs Q E hr h => ?_)
  · obtain ⟨b, o1, o2, x, dx, H0, rfl, _⟩ := h
    rfl
  · obtain ⟨b, o1, o2, x, dx, H0, rfl, e0, hn, hx, h1, h2, ok, k⟩ := h
    obtain ⟨q1, q2, q3, q4⟩ := id ok
    refine ⟨_, PSs.nox (pss_cons (ps_if (PW.pt (pw_or (pt_not (pt_val (pe_call (ok_is_within T) (hr.mono (by decide)) rfl (g_is_within T) (F_is_within T).kp (b_is_within T) .nil pass0 (pa_cons (pv 1) (pa_cons (pe_globI rfl (gi_FAR T)) pa_nil))))) (pw_or1 (pt_not (pt_val (pe_call (ok_is_within T) (hr.mono (by decide)) rfl (g_is_within T) (F_is_within T).kp (b_is_within T) .nil pass0 (pa_cons (pv 2) (pa_cons (pe_globI rfl (gi_FAR T)) pa_nil)))))))) (pss_one ps_never) pss_nil)
      (pss_cons (ps_if (pt_not (pt_chain op_le op_le pe_int (pv 3) (pe_globI rfl (gi_THICK T)))) (pss_one ps_never) pss_nil)
      (pss_cons (ps_fldK (K := K) (pv 0) (pe_callTy (k_tupK (K := K)) rfl (gf_tuple T) (by decide +kernel) (pa_cons (pv 1) pa_nil)) rfl)
      (pss_cons (ps_fldK (K := K) (pv 0) (pe_callTy (k_tupK (K := K)) rfl (gf_tuple T) (by decide +kernel) (pa_cons (pv 2) pa_nil)) rfl)
      (pss_one (ps_fldK (K := K) (pv 0) (pv 3) rfl)))))), ?_⟩
    walk_at "n0"
    refine EvI.go ?_ e0 hx
    refine zi_skip (et_is (et_or (et_not (et_B (ev_within T (by walk_at "ev") (by walk_at "ev") h1 q1))) fun _ => et_not (et_B (ev_within T (by walk_at "ev") (by walk_at "ev") h2 q2))) rfl) ?_
    refine zi_skip (et_is (by walk_at "et") (by rw [decide_eq_true q3, decide_eq_true q4] <;> rfl)) ?_
    refine zi_fld (c_Body T) (n_Body_first T) hn (by walk_at "ev") (ev_cb (by walk_at "ea") (rc_tupT h1)) rfl (Nat.le_of_ble_eq_true rfl) ?_
    refine zi_fld (c_Body T) (n_Body_last T) hn (by walk_at "ev") (ev_cb (by walk_at "ea") (rc_tupT h2)) rfl (Nat.le_of_ble_eq_true rfl) ?_
    refine zi_fldl (c_Body T) (n_Body_radius T) hn (by walk_at "ev") (by walk_at "ev") rfl (Nat.le_of_ble_eq_true rfl) fun H2 e2 hx2 => ?_
    exact k H2 e2 ⟨x, dx, o1, o2, rfl, hx2, ex_t e2 h1, ex_t e2 h2⟩
def sp_Capsule_init (K : PySem.W.Frag) : Sp := fun vs H Q _ => ∃ (c : Nat × BodyD) (bv : V) (x dx : Addr) (H0 : Hp), vs = [.ref x, .int (c.1 : Int), bv] ∧
  Ex H0 H ∧ H0 x = none ∧ H x = some (.ins (He.ga K "Capsule") dx []) ∧ BodyAt K c.2 bv H0 ∧ ∀ H2, Ex H0 H2 → CapAt K c (.ref x) H2 → Q .non H2
theorem ok_Capsule_init (T : Tx K mg) : FnOk P w K mg base CX0 1 (He.fAd K d_Capsule_init.at_) (fd_Capsule_init T) ["self", "link", "body"] (sp_Capsule_init K) := by
  refine (F_Capsule_init T).ok sc_Capsule_init (fun vs H Q E h => ?_) (fun cdv A outer s H vs Q E hr h => ?_)
  · obtain ⟨c, bv, x, dx, H0, rfl, _⟩ := h
    rfl
  · obtain ⟨c, bv, x, dx, H0, rfl, e0, hn, hx, hb, k⟩ := h
    refine ⟨_, PSs.nox (pss_cons (ps_fldK (K := K) (pv 0) (pv 1) rfl)
      (pss_one (ps_fldK (K := K) (pv 0) (pv 2) rfl))), ?_⟩
    walk_at "n0"
    refine EvI.go ?_ e0 hx
    refine zi_fld (c_Capsule T) (n_Capsule_link T) hn (by walk_at "ev") (by walk_at "ev") rfl (Nat.le_of_ble_eq_true rfl) ?_
    refine zi_fldl (c_Capsule T) (n_Capsule_body T) hn (by walk_at "ev") (by walk_at "ev") rfl (Nat.le_of_ble_eq_true rfl) fun H2 e2 hx2 => ?_
    exact k H2 e2 ⟨x, dx, bv, rfl, hx2, z_Body T _ _ _ _ (Ex.z e2) hb⟩
structure AValid (A : ArmD) : Prop where
  j1 : 1 ≤ A.joints.length
  j6 : A.joints.length ≤ 6
  c8 : A.caps.length ≤ 8
  b8 : A.beside.length ≤ 1000
  link : ∀ k, k < A.caps.length → (A.caps.getD k default).1 ≤ A.joints.length
  bes : ∀ k, k < A.beside.length → 0 ≤ (A.beside.getD k default).1 ∧ (A.beside.getD k default).1 < (A.beside.getD k default).2 ∧ (A.beside.getD k default).2 < (A.caps.length : Int)
def sp_Arm_init (K : PySem.W.Frag) : Sp := fun vs H Q _ => ∃ (A : ArmD) (jl cl bl x dx : Addr) (H0 : Hp), vs = [.ref x, .ref jl, .ref cl, .ref bl] ∧ Ex H0 H ∧ H0 x = none ∧ H x = some (.ins (He.ga K "Arm") dx []) ∧
  RLp K A.joints.length (fun i => JointAt K (A.joints.getD i default)) jl H0 ∧ RLp K A.caps.length (fun i => CapAt K (A.caps.getD i default)) cl H0 ∧ RLp K A.beside.length (fun i => PairAt K (A.beside.getD i default)) bl H0 ∧ AValid A ∧
  ∀ H2, Ex H0 H2 → ArmAt K A (.ref x) H2 → Q .non H2
theorem cast_le {a b : Nat} (h : a ≤ b) : decide ((a : Int) ≤ (b : Int)) = true := decide_eq_true (by omega)
theorem ok_Arm_init (T : Tx K mg) : FnOk P w K mg base CX0 1 (He.fAd K d_Arm_init.at_) (fd_Arm_init T) ["self", "joints", "capsules", "beside"] (sp_Arm_init K) := by
  refine (F_Arm_init T).ok sc_Arm_init (fun vs H Q E h => ?_) (fun cdv A outer s H vs Q E hr h => ?_)
  · obtain ⟨A, jl, cl, bl, x, dx, H0, rfl, _⟩ := h
    rfl
  · obtain ⟨A, jl, cl, bl, x, dx, H0, rfl, e0, hn, hx, ⟨yj, j1, j2, j3⟩, ⟨yc, c1, c2, c3⟩, ⟨yb, b1, b2, b3⟩, ok, k⟩ := h
    refine ⟨_, PSs.nox (pss_cons (ps_if (pt_not (pt_chain op_le op_le pe_int (pe_callB (k_lenK (K := K)) rfl (gf_len T) PySem.boot_len (pa_cons (pv 1) pa_nil)) (pe_globI rfl (gi_MOST_JOINTS T)))) (pss_one ps_never) pss_nil)
      (pss_cons (ps_if (pt_cmpR op_gt (pe_callB (k_lenK (K := K)) rfl (gf_len T) PySem.boot_len (pa_cons (pv 2) pa_nil)) (pe_globI rfl (gi_MOST_CAPSULES T)) (nomark _)) (pss_one ps_never) pss_nil)
      (pss_cons (ps_for PassesOwn.never rfl (pi_listK (K := K) (pv 2)) (pg_name (i := 4) sc_Arm_init.nd rfl (Or.inl rfl)) (pss_one (ps_if (pt_not (pt_chain op_le op_le pe_int (pe_fldK (K := K) (pv 4) rfl) (pe_callB (k_lenK (K := K)) rfl (gf_len T) PySem.boot_len (pa_cons (pv 1) pa_nil)))) (pss_one ps_never) pss_nil)))
      (pss_cons (ps_for PassesOwn.never rfl (pi_listK (K := K) (pv 3)) (pg_name (i := 5) sc_Arm_init.nd rfl (Or.inl rfl)) (pss_one (ps_if (pt_not (pt_chain3 op_le op_lt op_lt pe_int (pe_ix (ix_tupK (K := K)) (pv 5) pe_int (fun _ _ => rfl)) (pe_ix (ix_tupK (K := K)) (pv 5) pe_int (fun _ _ => rfl)) (pe_callB (k_lenK (K := K)) rfl (gf_len T) PySem.boot_len (pa_cons (pv 2) pa_nil)))) (pss_one ps_never) pss_nil)))
      (pss_cons (ps_fldK (K := K) (pv 0) (pe_callTy (k_tupK (K := K)) rfl (gf_tuple T) (by decide +kernel) (pa_cons (pv 1) pa_nil)) rfl)
      (pss_cons (ps_fldK (K := K) (pv 0) (pe_callTy (k_tupK (K := K)) rfl (gf_tuple T) (by decide +kernel) (pa_cons (pv 2) pa_nil)) rfl)
      (pss_one (ps_fldK (K := K) (pv 0) (pe_callTy (k_tupK (K := K)) rfl (gf_tuple T) (by decide +kernel) (pa_cons (pe_lc (own := [("pair", 5)]) (g := (gName 5)) (tt := tYes) rfl sc_Arm_init.nd (pi_listK (K := K) (pv 3)) (blkOk_by (own := [("pair", 5)]) (N := ["self", "joints", "capsules", "beside", "capsule", "pair"]) (sc := defScope s_Arm_init) (by decide +kernel)) (fun _ _ _ _ _ => (pg_name (i := 5) sc_Arm_init.nd rfl (Or.inl rfl))) (fun _ _ _ _ _ => pts_nil) (fun _ _ _ _ _ => (pe_callTy (k_tupK (K := K)) rfl (gf_tuple T) (by decide +kernel) (pa_cons (pv 5) pa_nil)))) pa_nil)) rfl)))))))), ?_⟩
    walk_at "n0"
    refine EvI.go ?_ e0 hx
    have oj1 := ok.j1
    have oj6 := ok.j6
    have oc8 := ok.c8
    have ob8 := ok.b8
    have ld : decide ((1 : Int) ≤ (yj.length : Int)) = true := decide_eq_true (by omega)
    have ld2 : decide ((yj.length : Int) ≤ 6) = true := decide_eq_true (by omega)
    have ld3 : decide ((8 : Int) < (yc.length : Int)) = false := decide_eq_false (by omega)
    refine zi_skip (et_is (by walk_at "et") (by rw [ld, ld2] <;> rfl)) ?_
    refine zi_skip (et_is (by walk_at "et") ld3) ?_
    refine zi_forSkip hn (by walk_at "ev") c1 rfl (fun i y hy => ?_) fun w1 => ?_
    · have hc : CapAt K (A.caps.getD i default) y H0 := c3 i y hy
      have hi : i < A.caps.length := by have := (List.getElem?_eq_some_iff.mp hy).1; omega
      have hl := ok.link i hi
      generalize A.caps.getD i default = cp at *
      have l1 : decide ((0 : Int) ≤ (cp.1 : Int)) = true := decide_eq_true (by omega)
      have l2 : decide ((cp.1 : Int) ≤ (yj.length : Int)) = true := decide_eq_true (by omega)
      walk_at "nf"
      exact et_is (by walk_at "et") (by rw [l1, l2] <;> rfl)
    walk_at "nf"
    refine zi_forSkip hn (by walk_at "ev") b1 rfl (fun i y hy => ?_) fun w2 => ?_
    · have hc : PairAt K (A.beside.getD i default) y H0 := b3 i y hy
      have hi : i < A.beside.length := by have := (List.getElem?_eq_some_iff.mp hy).1; omega
      obtain ⟨h1, h2, h3⟩ := ok.bes i hi
      generalize A.beside.getD i default = cp at *
      obtain ⟨pa, rfl, hp⟩ := hc
      have l1 : decide ((0 : Int) ≤ cp.1) = true := decide_eq_true h1
      have l2 : decide (cp.1 < cp.2) = true := decide_eq_true h2
      have l3 : decide (cp.2 < (yc.length : Int)) = true := decide_eq_true (by omega)
      walk_at "nf"
      exact et_is (by walk_at "et") (by rw [l1, l2, l3] <;> rfl)
    walk_at "nf"
    refine zi_fldT (c_Arm T) (n_Arm_joints T) hn (by walk_at "ev") (ep_tupOfR (EvP.weak (ep_of (v := .ref jl) (by walk_at "ev")) fun v H1 e h => ⟨jl, h, ex_l e j1⟩)) rfl (Nat.le_of_ble_eq_true rfl) fun p1 H1 e1 hn1 hp1 => ?_
    have c1 := ex_l e1 c1
    refine zi_fldT (c_Arm T) (n_Arm_capsules T) hn1 (by walk_at "ev") (ep_tupOfR (EvP.weak (ep_of (v := .ref cl) (by walk_at "ev")) fun v H2 e h => ⟨cl, h, ex_l e c1⟩)) rfl (Nat.le_of_ble_eq_true rfl) fun p2 H2 e2 hn2 hp2 => ?_
    have b1 := ex_l (e1.trans e2) b1
    refine zi_fldTl (c_Arm T) (n_Arm_beside T) hn2 (by walk_at "ev") (ep_tupOfI (EvP.weak (ep_lcL (Pi := fun i v _ => yb[i]? = some v) (by walk_at "ev") b1 (by omega) (fun _ _ _ _ _ h => h) (fun _ x => _) (fun i x H1 R _ _ r => r) (fun i x _ => rfl) fun i x hi => ?_) fun v H3 _ h => h.same rfl)) rfl (Nat.le_of_ble_eq_true rfl) fun p3 H3 e3 hp3 hx3 => ?_
    · obtain ⟨pa, rfl, hp⟩ : PairAt K (A.beside.getD i default) x H2 := upz_rdT.up _ _ _ (e1.trans e2) (b3 i x hi)
      walk_at "nf"
      exact EvP.weak (ep_of (ev_cb (by walk_at "ea") (rc_tupT hp))) fun v H3 _ h => by rw [h]; exact hi
    · have e13 := (e1.trans e2).trans e3
      exact k H3 e13 ⟨x, dx, p1, p2, p3, rfl, hx3, ⟨yj, st_of ((e2.trans e3) _ _ hp1), j2, fun i y q => z_Joint T _ _ _ _ (Ex.z e13) (j3 i y q)⟩, ⟨yc, st_of (e3 _ _ hp2), c2, fun i y q => z_Cap T _ _ _ _ (Ex.z e13) (c3 i y q)⟩, ⟨yb, st_of hp3, b2, fun i y q => upz_rdT.up _ _ _ e13 (b3 i y q)⟩⟩
end
/-! Moves, movers. -/
section
variable {P : Program} {w : World} {K : PySem.W.Frag} {mg : Str → Option Value} {base : Heap}
structure FitsOk (js : List JointD) (row : List Int) : Prop where
  l : row.length = js.length
  l6 : row.length ≤ 6
  r : ∀ k, k < row.length → (js.getD k default).least ≤ row.getD k 0 ∧ row.getD k 0 ≤ (js.getD k default).most
def sp_Arm_fits (K : PySem.W.Frag) : Sp := fun vs H Q _ => ∃ (av : V) (A : ArmD) (rl : Addr) (row : List Int), vs = [av, .ref rl] ∧ ArmAt K A av H ∧ SqL K H rl (row.map V.int) ∧ FitsOk A.joints row ∧ Ret (fun v _ => v = .bl true) H Q
theorem all_true (n : Nat) : ((List.range n).map fun _ => true).all id = true := by
  rw [List.all_eq_true]
  intro x hx
  obtain ⟨_, _, e⟩ := List.mem_map.mp hx
  rw [← e]
  rfl
theorem ep_all {σ : L2.St} {H : Hp} {te : TE} {n : Nat} (h : EvP te σ H (IsL ((List.range n).map fun _ => V.bl true))) : Ev (tCB (rAll K) (tCons te tNil)) σ H (.bl true) := fun H1 e Q q =>
  h H1 e _ fun v H2 e2 hv => by
    obtain ⟨p, rfl, hp⟩ := hv
    refine ⟨p, (List.range n).map fun _ => true, rfl, by rw [List.map_map]; exact sq_of hp, ?_⟩
    rw [all_true]
    exact q H2 e2
theorem ok_Arm_fits (T : Tx K mg) : FnOk P w K mg base CX0 1 (He.fAd K d_Arm_fits.at_) (fd_Arm_fits T) ["self", "row"] (sp_Arm_fits K) := by
  refine (F_Arm_fits T).ok sc_Arm_fits (fun vs H Q E h => ?_) (fun cdv A outer s H vs Q E hr h => ?_)
  · obtain ⟨av, A, rl, row, rfl, _⟩ := h
    rfl
  · obtain ⟨av, A, rl, row, rfl, hA, hR, ok, k⟩ := h
    obtain ⟨ol, ol6, orr⟩ := id ok
    obtain ⟨a, dx, tj, tc, tb, rfl, ha, hj, hc, hbs⟩ := id hA
    obtain ⟨yj, j1, j2, j3⟩ := id hj
    refine ⟨_, PSs.nox (pss_cons (ps_if (pt_cmpR op_ne (pe_callB (k_lenK (K := K)) rfl (gf_len T) PySem.boot_len (pa_cons (pv 1) pa_nil)) (pe_callB (k_lenK (K := K)) rfl (gf_len T) PySem.boot_len (pa_cons (pe_fldK (K := K) (pv 0) rfl) pa_nil)) (nomark _)) (pss_one (ps_ret pe_bl)) pss_nil)
      (pss_one (ps_ret (pe_callB (k_allK (K := K) rfl) rfl (gf_all T) (by decide +kernel) (pa_cons (pe_lc (own := [("k", 2)]) (g := (gName 2)) (tt := tYes) rfl sc_Arm_fits.nd (pi_range1 rfl (gf_range T) (pa_cons (pe_callB (k_lenK (K := K)) rfl (gf_len T) PySem.boot_len (pa_cons (pv 1) pa_nil)) pa_nil)) (blkOk_by (own := [("k", 2)]) (N := ["self", "row", "k"]) (sc := defScope s_Arm_fits) (by decide +kernel)) (fun _ _ _ _ _ => (pg_name (i := 2) sc_Arm_fits.nd rfl (Or.inl rfl))) (fun _ _ _ _ _ => pts_nil) (fun _ _ _ _ _ => (pe_chain op_le op_le (pe_fldK (K := K) (pe_ix (ix_tupK (K := K)) (pe_fldK (K := K) (pv 0) rfl) (pv 2) (fun _ _ => rfl)) rfl) (pe_ix (ix_listK (K := K)) (pv 1) (pv 2) (fun _ _ => rfl)) (pe_fldK (K := K) (pe_ix (ix_tupK (K := K)) (pe_fldK (K := K) (pv 0) rfl) (pv 2) (fun _ _ => rfl)) rfl)))) pa_nil))))), ?_⟩
    walk_at "n0"
    refine EvS.go ?_
    have l1 : (!decide ((((row.map V.int).length : Nat) : Int) = (yj.length : Int))) = false := by rw [List.length_map, decide_eq_true (by omega)] <;> rfl
    refine z_skip (et_is (by walk_at "et") l1) ?_
    refine z_retV (ep_all (n := ((((row.map V.int).length : Nat) : Int)).toNat) (ep_lcRi (fun _ => .bl true) (by walk_at "ea") (by rw [List.length_map]; omega) (fun _ => rfl) fun i hi => ?_)) fun H1 e => k _ H1 e rfl
    rw [List.length_map] at hi
    have hi2 : i < row.length := by omega
    obtain ⟨r1, r2⟩ := orr i hi2
    have hrow := ints_at hi2
    obtain ⟨y2, jv, q1, q2, q3⟩ := hj.at (k := i) (by omega)
    have q3 : JointAt K (A.joints.getD i default) jv H := q3
    generalize A.joints.getD i default = jd at *
    generalize row.getD i 0 = rv at *
    walk_at "nf"
    exact ev_is (by walk_at "ev") (by rw [decide_eq_true r1, decide_eq_true r2] <;> rfl)
def sp_Move_init (K : PySem.W.Frag) : Sp := fun vs H Q _ => ∃ (A : ArmD) (first last : List Int) (av : V) (fl ll x dx : Addr) (H0 : Hp), vs = [.ref x, av, .ref fl, .ref ll] ∧ Ex H0 H ∧ H0 x = none ∧ H x = some (.ins (He.ga K "Move") dx []) ∧
  ArmAt K A av H0 ∧ SqL K H0 fl (first.map V.int) ∧ SqL K H0 ll (last.map V.int) ∧ FitsOk A.joints first ∧ FitsOk A.joints last ∧ ∀ H2, Ex H0 H2 → MoveAt K first last (.ref x) H2 → Q .non H2
theorem ev_fits (T : Tx K mg) {σ : L2.St} {H : Hp} {ta tb : TE} {av : V} {A : ArmD} {rl : Addr} {row : List Int} {E : XK} (ha : Ev ta σ H av) (hb : Ev tb σ H (.ref rl)) (hA : ArmAt K A av H) (hR : SqL K H rl (row.map V.int)) (ok : FitsOk A.joints row) :
    Ev (tMeth (He.ga K "Arm") "fits" (sp_Arm_fits K) [] E ta (tCons tb tNil)) σ H (.bl true) := by
  obtain ⟨a, dx, tj, tc, tb, rfl, hi, _⟩ := id hA
  exact ev_of (ep_meth ha hi rfl (epa1 hb epa_nil) fun vs H1 e hvs Q k E => by
    obtain ⟨r, rfl, rfl⟩ := hvs
    exact ⟨_, A, rl, row, rfl, z_Arm T A _ _ _ (Ex.z e) hA, ex_l e hR, ok, k⟩)
theorem ok_Move_init (T : Tx K mg) : FnOk P w K mg base CX0 2 (He.fAd K d_Move_init.at_) (fd_Move_init T) ["self", "arm", "first", "last"] (sp_Move_init K) := by
  refine (F_Move_init T).ok sc_Move_init (fun vs H Q E h => ?_) (fun cdv A outer s H vs Q E hr h => ?_)
  · obtain ⟨A, first, last, av, fl, ll, x, dx, H0, rfl, _⟩ := h
    rfl
  · obtain ⟨A, first, last, av, fl, ll, x, dx, H0, rfl, e0, hn, hx, hA, h1, h2, o1, o2, k⟩ := h
    refine ⟨_, PSs.nox (pss_cons (ps_if (pt_not (pt_val (pe_meth (pv 1) (c_Arm T) (m_Arm_fits T) (ok_Arm_fits T) (hr.mono (by decide)) (b_Arm_fits T) .nil pass0 (pa_cons (pv 2) pa_nil)))) (pss_one ps_never) pss_nil)
      (pss_cons (ps_if (pt_not (pt_val (pe_meth (pv 1) (c_Arm T) (m_Arm_fits T) (ok_Arm_fits T) (hr.mono (by decide)) (b_Arm_fits T) .nil pass0 (pa_cons (pv 3) pa_nil)))) (pss_one ps_never) pss_nil)
      (pss_cons (ps_fldK (K := K) (pv 0) (pe_callTy (k_tupK (K := K)) rfl (gf_tuple T) (by decide +kernel) (pa_cons (pv 2) pa_nil)) rfl)
      (pss_one (ps_fldK (K := K) (pv 0) (pe_callTy (k_tupK (K := K)) rfl (gf_tuple T) (by decide +kernel) (pa_cons (pv 3) pa_nil)) rfl))))), ?_⟩
    walk_at "n0"
    refine EvI.go ?_ e0 hx
    refine zi_skip (et_is (et_not (et_B (ev_fits T (by walk_at "ev") (by walk_at "ev") hA h1 o1))) rfl) ?_
    refine zi_skip (et_is (et_not (et_B (ev_fits T (by walk_at "ev") (by walk_at "ev") hA h2 o2))) rfl) ?_
    refine zi_fldT (c_Move T) (n_Move_first T) hn (by walk_at "ev") (ep_tupOfR (EvP.weak (ep_of (v := .ref fl) (by walk_at "ev")) fun v H1 e h => ⟨fl, h, ex_l e h1⟩)) rfl (Nat.le_of_ble_eq_true rfl) fun p1 H1 e1 hn1 hp1 => ?_
    have h2 := ex_l e1 h2
    refine zi_fldTl (c_Move T) (n_Move_last T) hn1 (by walk_at "ev") (ep_tupOfR (EvP.weak (ep_of (v := .ref ll) (by walk_at "ev")) fun v H1 e h => ⟨ll, h, ex_l e h2⟩)) rfl (Nat.le_of_ble_eq_true rfl) fun p2 H2 e2 hp2 hx2 => ?_
    exact k H2 (e1.trans e2) ⟨x, dx, p1, p2, rfl, hx2, st_of (e2 _ _ hp1), st_of hp2⟩
/-! middle, halves -/
structure RowSm (row : List Int) : Prop where
  l6 : row.length ≤ 6
  r : ∀ k, k < row.length → -1099511627776 < row.getD k 0 ∧ row.getD k 0 < 1099511627776
def sp_Move_middle (K : PySem.W.Frag) : Sp := fun vs H Q _ => ∃ (mv : V) (first last : List Int) (pt : Addr) (depth : Nat) (at_ : Int), vs = [mv, .ref pt] ∧ MoveAt K first last mv H ∧ SqT K H pt [.int (depth : Int), .int at_] ∧ first.length = last.length ∧ RowSm first ∧ RowSm last ∧
  Ret (IsL ((midM first last depth at_).map V.int)) H Q
theorem range_snoc {α : Type} (f : Nat → α) (n : Nat) : (List.range (n + 1)).map f = (List.range n).map f ++ [f n] := by
  rw [List.range_succ, List.map_append] <;> rfl
theorem ok_Move_middle (T : Tx K mg) : FnOk P w K mg base CX0 1 (He.fAd K d_Move_middle.at_) (fd_Move_middle T) ["self", "part"] (sp_Move_middle K) := by
  refine (F_Move_middle T).ok sc_Move_middle (fun vs H Q E h => ?_) (fun cdv A outer s H vs Q E hr h => ?_)
  · obtain ⟨mv, first, last, pt, depth, at_, rfl, _⟩ := h
    rfl
  · obtain ⟨mv, first, last, pt, depth, at_, rfl, hM, hp, hl, s1, s2, k⟩ := h
    obtain ⟨a, dx, t1, t2, rfl, ha, h1, h2⟩ := id hM
    refine ⟨_, PSs.nox (pss_cons (ps_asg (pv 1) (pg_tupK (K := K) rfl (pgs_cons (pg_name (i := 2) sc_Move_middle.nd rfl (Or.inl rfl)) (pgs_cons (pg_name (i := 3) sc_Move_middle.nd rfl (Or.inl rfl)) pgs_nil))))
      (pss_cons (ps_set (i := 4) sc_Move_middle.nd rfl (Or.inl rfl) (pe_lst pa_nil))
      (pss_cons (ps_for PassesOwn.never rfl (pi_range1 rfl (gf_range T) (pa_cons (pe_callB (k_lenK (K := K)) rfl (gf_len T) PySem.boot_len (pa_cons (pe_fldK (K := K) (pv 0) rfl) pa_nil)) pa_nil)) (pg_name (i := 5) sc_Move_middle.nd rfl (Or.inl rfl)) (pss_cons (ps_set (i := 6) sc_Move_middle.nd rfl (Or.inl rfl) (pe_op op_mul (pe_op op_sub (pe_ix (ix_tupK (K := K)) (pe_fldK (K := K) (pv 0) rfl) (pv 5) (fun _ _ => rfl)) (pe_ix (ix_tupK (K := K)) (pe_fldK (K := K) (pv 0) rfl) (pv 5) (fun _ _ => rfl))) (pe_op op_add (pe_op op_mul pe_int (pv 3)) pe_int)))
      (pss_one (ps_expr (pe_bmK (K := K) PySem.F.plainAttrs_list PySem.F.slot_list_append PySem.F.type_list_append mt_append (pv 4) (pa_cons (pe_op op_add (pe_ix (ix_tupK (K := K)) (pe_fldK (K := K) (pv 0) rfl) (pv 5) (fun _ _ => rfl)) (pe_op op_shr (pv 6) (pe_op op_add (pv 2) pe_int))) pa_nil))))))
      (pss_one (ps_ret (pv 4)))))), ?_⟩
    walk_at "n0"
    refine EvS.go ?_
    refine z_unpack2 (by walk_at "ev") hp ?_
    walk_at "nf"
    refine zm_new (by walk_at "ea") (Nat.le_of_ble_eq_true rfl) fun l hn => ?_
    walk_at "nf"
    have q6 := s1.l6
    refine zm_for (n := (((first.map V.int).length : Nat) : Int)) hn (by walk_at "ea") (by rw [List.length_map]; omega)
      (fun i => [some (.ref a), some (.ref pt), some (.int (depth : Int)), some (.int at_), some (.ref l), (if i = 0 then none else some (.int ((i - 1 : Nat) : Int))), (if i = 0 then none else some (.int ((last.getD (i - 1) 0 - first.getD (i - 1) 0) * (2 * at_ + 1))))])
      (fun i => (List.range i).map fun j => V.int (first.getD j 0 + (last.getD j 0 - first.getD j 0) * (2 * at_ + 1) / 2 ^ (depth + 1))) rfl rfl (fun i hi N B hN => ?_) ?_
    · rw [List.length_map] at hi
      have hi1 : i < first.length := by omega
      have hi2 : i < last.length := by omega
      have a1 := ints_at hi1
      have a2 := ints_at hi2
      obtain ⟨b1, b1'⟩ := s1.r i hi1
      obtain ⟨b2, b2'⟩ := s2.r i hi2
      have ed : ((depth : Int) + 1).toNat = depth + 1 := by omega
      walk_at "nf"
      refine zm_asg (v := .int ((last.getD i 0 - first.getD i 0) * (2 * at_ + 1))) (by walk_at "ev") ?_
      walk_at "nf"
      refine sm_app (v := .int (first.getD i 0 + (last.getD i 0 - first.getD i 0) * (2 * at_ + 1) / 2 ^ (depth + 1))) hn (by walk_at "ev") (ev_is (by walk_at "ev") (by rw [ed])) (by rw [List.length_map, List.length_range]; omega) fun H1 e hl1 => ?_
      refine hN H1 e ?_
      rw [range_snoc]
      exact hl1
    · walk_at "nf"
      have en : ((((first.map V.int).length : Nat) : Int)).toNat = first.length := by rw [List.length_map]; omega
      rw [en]
      have ek : (midM first last depth at_).map V.int = (List.range first.length).map fun j => V.int (first.getD j 0 + (last.getD j 0 - first.getD j 0) * (2 * at_ + 1) / 2 ^ (depth + 1)) := by
        unfold midM
        rw [List.map_map] <;> rfl
      rw [ek] at k
      exact zm_retL (by walk_at "ev") k
end
/-! Halves, movers, matters. -/
section
variable {P : Program} {w : World} {K : PySem.W.Frag} {mg : Str → Option Value} {base : Heap}
def sp_Move_halves (K : PySem.W.Frag) : Sp := fun vs H Q _ => ∃ (mv : V) (first last : List Int) (depth : Nat), vs = [mv, .int (depth : Int)] ∧ MoveAt K first last mv H ∧ depth ≤ 20 ∧ first.length = last.length ∧ first.length ≤ 6 ∧
  Ret (IsL ((halvesM first last depth).map V.int)) H Q
theorem ite_int {b : Bool} {i j : Int} : (if b = true then V.int i else V.int j) = .int (if b = true then i else j) := by cases b <;> rfl
theorem ok_Move_halves (T : Tx K mg) : FnOk P w K mg base CX0 2 (He.fAd K d_Move_halves.at_) (fd_Move_halves T) ["self", "depth"] (sp_Move_halves K) := by
  refine (F_Move_halves T).ok sc_Move_halves (fun vs H Q E h => ?_) (fun cdv A outer s H vs Q E hr h => ?_)
  · obtain ⟨mv, first, last, depth, rfl, _⟩ := h
    rfl
  · obtain ⟨mv, first, last, depth, rfl, hM, hd, hl, q6, k⟩ := h
    obtain ⟨a, dx, t1, t2, rfl, ha, h1, h2⟩ := id hM
    refine ⟨_, PSs.nox (pss_cons (ps_set (i := 2) sc_Move_halves.nd rfl (Or.inl rfl) (pe_lst pa_nil))
      (pss_cons (ps_for PassesOwn.never rfl (pi_range1 rfl (gf_range T) (pa_cons (pe_callB (k_lenK (K := K)) rfl (gf_len T) PySem.boot_len (pa_cons (pe_fldK (K := K) (pv 0) rfl) pa_nil)) pa_nil)) (pg_name (i := 3) sc_Move_halves.nd rfl (Or.inl rfl)) (pss_cons (ps_set (i := 4) sc_Move_halves.nd rfl (Or.inl rfl) (pe_callB k_abs rfl (gf_abs T) (by decide +kernel) (pa_cons (pe_op op_sub (pe_ix (ix_tupK (K := K)) (pe_fldK (K := K) (pv 0) rfl) (pv 3) (fun _ _ => rfl)) (pe_ix (ix_tupK (K := K)) (pe_fldK (K := K) (pv 0) rfl) (pv 3) (fun _ _ => rfl))) pa_nil)))
      (pss_one (ps_expr (pe_bmK (K := K) PySem.F.plainAttrs_list PySem.F.slot_list_append PySem.F.type_list_append mt_append (pv 2) (pa_cons (pe_ifExp (pt_cmpR op_gt (pv 4) pe_int (nomark _)) (pe_op op_add (pe_call (ok_divide_up T) (hr.mono (by decide)) rfl (g_divide_up T) (F_divide_up T).kp (b_divide_up T) .nil pass0 (pa_cons (pv 4) (pa_cons (pe_op op_shl pe_int (pe_op op_add (pv 1) pe_int)) pa_nil))) pe_int) pe_int) pa_nil))))))
      (pss_one (ps_ret (pv 2))))), ?_⟩
    walk_at "n0"
    refine EvS.go ?_
    refine zm_new (by walk_at "ea") (Nat.le_of_ble_eq_true rfl) fun l hn => ?_
    walk_at "nf"
    refine zm_for (n := (((first.map V.int).length : Nat) : Int)) hn (by walk_at "ea") (by rw [List.length_map]; omega)
      (fun i => [some (.ref a), some (.int (depth : Int)), some (.ref l), (if i = 0 then none else some (.int ((i - 1 : Nat) : Int))), (if i = 0 then none else some (.int (absI (last.getD (i - 1) 0 - first.getD (i - 1) 0))))])
      (fun i => (List.range i).map fun j => V.int (if absI (last.getD j 0 - first.getD j 0) > 0 then divUp (absI (last.getD j 0 - first.getD j 0)) (2 ^ (depth + 1)) + 1 else 0)) rfl rfl (fun i hi N B hN => ?_) ?_
    · rw [List.length_map] at hi
      have hi1 : i < first.length := by omega
      have hi2 : i < last.length := by omega
      have a1 := ints_at hi1
      have a2 := ints_at hi2
      have ed : ((depth : Int) + 1).toNat = depth + 1 := by omega
      have p0 : (0 : Int) < 2 ^ (depth + 1) := Int.pow_pos (by decide)
      have p1 : (2 : Int) ^ (depth + 1) < 1073741824 := by
        have : (2 : Nat) ^ (depth + 1) ≤ 2 ^ 21 := Nat.pow_le_pow_right (by decide) (by omega)
        have e : (2 : Int) ^ (depth + 1) = (((2 : Nat) ^ (depth + 1) : Nat) : Int) := by rw [Int.natCast_pow] <;> rfl
        rw [e]
        omega
      walk_at "nf"
      refine zm_asg (v := .int (absI (last.getD i 0 - first.getD i 0))) (by walk_at "ev") ?_
      walk_at "nf"
      refine sm_app (v := .int (if absI (last.getD i 0 - first.getD i 0) > 0 then divUp (absI (last.getD i 0 - first.getD i 0)) (2 ^ (depth + 1)) + 1 else 0)) hn (by walk_at "ev")
        (ev_is (ev_ifx (by walk_at "et") (ev_op (ev_of (ep_call (P := fun v _ => v = .int (divUp (absI (last.getD i 0 - first.getD i 0)) (2 ^ (depth + 1)))) (vs := [.int (absI (last.getD i 0 - first.getD i 0)), .int (1 * 2 ^ ((depth : Int) + 1).toNat)]) (ea_cons (by walk_at "ev") (ea_cons (ev_op (by walk_at "ev") (by walk_at "ev") (rv_shl (And.intro (by omega) (And.intro (by omega) (by decide))))) ea_nil)) fun H1 e Q k E => ?_)) (by walk_at "ev") rv_add) (by walk_at "ev")) ?_)
        (by rw [List.length_map, List.length_range]; omega) fun H1 e hl1 => ?_
      · refine ⟨_, _, rfl, ?_, ?_, ?_⟩
        · rw [ed, Int.one_mul]; exact p0
        · rw [ed, Int.one_mul]; exact p1
        · rw [ed, Int.one_mul]; exact k
      · rw [ite_int]
        by_cases z : absI (last.getD i 0 - first.getD i 0) > 0
        · rw [decide_eq_true z, if_pos rfl, if_pos z]
        · rw [decide_eq_false z, if_neg (by decide), if_neg z]
      · refine hN H1 e ?_
        rw [range_snoc]
        exact hl1
    · walk_at "nf"
      have en : ((((first.map V.int).length : Nat) : Int)).toNat = first.length := by rw [List.length_map]; omega
      rw [en]
      have ek : (halvesM first last depth).map V.int = (List.range first.length).map fun j => V.int (if absI (last.getD j 0 - first.getD j 0) > 0 then divUp (absI (last.getD j 0 - first.getD j 0)) (2 ^ (depth + 1)) + 1 else 0) := by
        unfold halvesM
        rw [List.map_map] <;> rfl
      rw [ek] at k
      exact zm_retL (by walk_at "ev") k
/-! movers -/
def sp_Mover_init (K : PySem.W.Frag) : Sp := fun vs H Q _ => ∃ (M : MoverD) (av mv : V) (th x dx : Addr) (H0 : Hp), vs = [.ref x, av, mv, .ref th] ∧ Ex H0 H ∧ H0 x = none ∧ H x = some (.ins (He.ga K "Mover") dx []) ∧
  ArmAt K M.arm av H0 ∧ MoveAt K M.first M.last mv H0 ∧ (RTp K M.held.length (fun i => BodyAt K (M.held.getD i default)) th H0 ∨ RLp K M.held.length (fun i => BodyAt K (M.held.getD i default)) th H0) ∧
  ∀ H2, Ex H0 H2 → MoverAt K M (.ref x) H2 → Q .non H2
theorem ok_Mover_init (T : Tx K mg) : FnOk P w K mg base CX0 1 (He.fAd K d_Mover_init.at_) (fd_Mover_init T) ["self", "arm", "move", "held"] (sp_Mover_init K) := by
  refine (F_Mover_init T).ok sc_Mover_init (fun vs H Q E h => ?_) (fun cdv A outer s H vs Q E hr h => ?_)
  · obtain ⟨M, av, mv, th, x, dx, H0, rfl, _⟩ := h
    rfl
  · obtain ⟨M, av, mv, th, x, dx, H0, rfl, e0, hn, hx, hA, hM, hH, k⟩ := h
    refine ⟨_, PSs.nox (pss_cons (ps_fldK (K := K) (pv 0) (pv 1) rfl)
      (pss_cons (ps_fldK (K := K) (pv 0) (pv 2) rfl)
      (pss_one (ps_fldK (K := K) (pv 0) (pe_callTy (k_tupK (K := K)) rfl (gf_tuple T) (by decide +kernel) (pa_cons (pv 3) pa_nil)) rfl)))), ?_⟩
    walk_at "n0"
    refine EvI.go ?_ e0 hx
    refine zi_fld (c_Mover T) (n_Mover_arm T) hn (by walk_at "ev") (by walk_at "ev") rfl (Nat.le_of_ble_eq_true rfl) ?_
    refine zi_fld (c_Mover T) (n_Mover_move T) hn (by walk_at "ev") (by walk_at "ev") rfl (Nat.le_of_ble_eq_true rfl) ?_
    rcases hH with ⟨ys, h1, h2, h3⟩ | ⟨ys, h1, h2, h3⟩
    · refine zi_fldl (c_Mover T) (n_Mover_held T) hn (by walk_at "ev") (ev_cb (by walk_at "ea") (rc_tupT h1)) rfl (Nat.le_of_ble_eq_true rfl) fun H2 e2 hx2 => ?_
      exact k H2 e2 ⟨x, dx, av, mv, th, rfl, hx2, z_Arm T _ _ _ _ (Ex.z e2) hA, z_Move T _ _ _ _ _ (Ex.z e2) hM, ⟨ys, ex_t e2 h1, h2, fun i y q => z_Body T _ _ _ _ (Ex.z e2) (h3 i y q)⟩⟩
    · refine zi_fldTl (c_Mover T) (n_Mover_held T) hn (by walk_at "ev") (ep_tupOfR (EvP.weak (ep_of (v := .ref th) (by walk_at "ev")) fun v H1 e h => ⟨th, h, ex_l e h1⟩)) rfl (Nat.le_of_ble_eq_true rfl) fun p1 H2 e2 hp1 hx2 => ?_
      exact k H2 e2 ⟨x, dx, av, mv, p1, rfl, hx2, z_Arm T _ _ _ _ (Ex.z e2) hA, z_Move T _ _ _ _ _ (Ex.z e2) hM, ⟨ys, st_of hp1, h2, fun i y q => z_Body T _ _ _ _ (Ex.z e2) (h3 i y q)⟩⟩
/-- the links and bodies of a mover -/
def blsM (M : MoverD) : List (Nat × BodyD) := M.arm.caps ++ M.held.map fun b => (M.arm.joints.length, b)
def LbAt (K : PySem.W.Frag) (c : Nat × BodyD) : VP := fun v H => ∃ p bv, v = .ref p ∧ SqT K H p [.int (c.1 : Int), bv] ∧ BodyAt K c.2 bv H
theorem z_Lb (T : Tx K mg) (c : Nat × BodyD) : UpZ K (LbAt K c) := fun _ _ _ e ⟨p, bv, r, q1, q2⟩ => ⟨p, bv, r, e.sqt q1, z_Body T _ _ _ _ e q2⟩
def sp_Mover_bodies (K : PySem.W.Frag) : Sp := fun vs H Q _ => ∃ (mv : V) (M : MoverD), vs = [mv] ∧ MoverAt K M mv H ∧ M.arm.caps.length ≤ 8 ∧ M.held.length ≤ 8 ∧ M.arm.joints.length ≤ 6 ∧ Ret (LsP (blsM M).length fun i => LbAt K ((blsM M).getD i default)) H Q
theorem ok_Mover_bodies (T : Tx K mg) : FnOk P w K mg base CX0 1 (He.fAd K d_Mover_bodies.at_) (fd_Mover_bodies T) ["self"] (sp_Mover_bodies K) := by
  refine (F_Mover_bodies T).ok sc_Mover_bodies (fun vs H Q E h => ?_) (fun cdv A outer s H vs Q E hr h => ?_)
  · obtain ⟨mv, M, rfl, _⟩ := h
    rfl
  · obtain ⟨mv, M, rfl, hM, c8, h8, j6, k⟩ := h
    obtain ⟨a, dx, av, mov, th, rfl, ha, hA, hMv, ⟨yh, hh1, hh2, hh3⟩⟩ := id hM
    obtain ⟨aa, adx, tj, tc, tb, rfl, haa, ⟨yj, hj1, hj2, hj3⟩, ⟨yc, hc1, hc2, hc3⟩, hbs⟩ := id hA
    refine ⟨_, PSs.nox (pss_cons (ps_setLc (i := 1) (own := [("capsule", 3)]) (g := (gName 3)) (tt := tYes) rfl sc_Mover_bodies.nd rfl rfl (sw_true rfl rfl rfl (by decide +kernel)) (pi_tupK (K := K) (pe_fldK (K := K) (pe_fldK (K := K) (pv 0) rfl) rfl)) (blkOk_by (own := [("capsule", 3)]) (N := ["self", "row", "body", "capsule"]) (sc := defScope s_Mover_bodies) (by decide +kernel)) (fun _ _ _ _ _ => (pg_name (i := 3) sc_Mover_bodies.nd rfl (Or.inl rfl))) (fun _ _ _ _ _ => pts_nil) (fun _ _ _ _ _ => (pe_tup (pa_cons (pe_fldK (K := K) (pv 3) rfl) (pa_cons (pe_fldK (K := K) (pv 3) rfl) pa_nil)))))
      (pss_cons (ps_for PassesOwn.never rfl (pi_tupK (K := K) (pe_fldK (K := K) (pv 0) rfl)) (pg_name (i := 2) sc_Mover_bodies.nd rfl (Or.inl rfl)) (pss_one (ps_expr (pe_bmK (K := K) PySem.F.plainAttrs_list PySem.F.slot_list_append PySem.F.type_list_append mt_append (pv 1) (pa_cons (pe_tup (pa_cons (pe_callB (k_lenK (K := K)) rfl (gf_len T) PySem.boot_len (pa_cons (pe_fldK (K := K) (pe_fldK (K := K) (pv 0) rfl) rfl) pa_nil)) (pa_cons (pv 2) pa_nil))) pa_nil)))))
      (pss_one (ps_ret (pv 1))))), ?_⟩
    walk_at "n0"
    refine EvS.go ?_
    refine zf_asg (ef_lcT (Pi := fun i => LbAt K (M.arm.caps.getD i default)) (by walk_at "ev") hc1 (by omega) (fun i => z_Lb T _) (fun _ x => _) (fun i x H1 R _ _ r => r) (fun i x _ => rfl) (fun i x hi => ?_)) fun l H2 hn e02 hp => ?_
    · have hc : CapAt K (M.arm.caps.getD i default) x H := hc3 i x hi
      generalize M.arm.caps.getD i default = cp at *
      obtain ⟨ca, cdx, bv, rfl, hc4, hc5⟩ := id hc
      walk_at "nf"
      refine EvP.weak (ep_tupV (by walk_at "ea") (Nat.le_of_ble_eq_true rfl)) fun v H3 e3 h => ?_
      obtain ⟨p, rfl, hp⟩ := h
      exact ⟨p, bv, rfl, st_of hp, z_Body T _ _ _ _ (Ex.z e3) hc5⟩
    · obtain ⟨l2, ys, el, hl1, hl2, hl3⟩ := hp
      cases el
      walk_at "nf"
      have ha2 := e02 _ _ ha
      refine q_forT (a := th) (xs := yh) (by walk_at "ev") (ex_t e02 hh1) (fun i σ' H' => (∃ x2, σ' = [some (.ref a), some (.ref l), x2, none]) ∧ Ex H H' ∧ ∃ zs, H' l = some (.lst zs) ∧ zs.length = M.arm.caps.length + i ∧ ∀ (j : Nat) y, zs[j]? = some y → LbAt K ((blsM M).getD j default) y H') (fun H3 e3 => ?_) (fun i σ' H' _ p => ex_t p.2.1 hh1) (fun i x σ' H' hi p => ?_) (fun σ' H' p => ?_)
      · refine ⟨⟨none, rfl⟩, e02.trans e3, ys, e3 _ _ hl1, by omega, fun j y hj => ?_⟩
        have hjl : j < M.arm.caps.length := by have := (List.getElem?_eq_some_iff.mp hj).1; omega
        have eb : (blsM M).getD j default = M.arm.caps.getD j default := by
          unfold blsM
          rw [List.getD_eq_getElem?_getD, List.getD_eq_getElem?_getD, List.getElem?_append_left hjl]
        rw [eb]
        exact z_Lb T _ _ _ _ (Ex.z e3) (hl3 j y hj)
      · obtain ⟨⟨x2, rfl⟩, pe, zs, z1, z2, z3⟩ := p
        have hb : BodyAt K (M.held.getD i default) x H' := z_Body T _ _ _ _ (Ex.z pe) (hh3 i x hi)
        have hil : i < M.held.length := by have := (List.getElem?_eq_some_iff.mp hi).1; omega
        have ha' := pe _ _ ha
        have haa' := pe _ _ haa
        have hj1' := ex_t pe hj1
        show _
        walk_at "nf"
        refine s_appU (l := l) (xs := zs) (ys := [.int (M.arm.joints.length : Int), x]) z1 (by walk_at "ev") (eu_tup (ea_cons (ev_is (by walk_at "ev") (by rw [hj2])) (ea_cons (by walk_at "ev") ea_nil)) (Nat.le_of_ble_eq_true rfl)) (by omega) fun p H3 hp e3 hq => ?_
        have z1' := e3 _ _ z1
        have ez : Ez K H3 (upd H3 l (.lst (zs ++ [.ref p]))) := Ez.lst z1'
        refine ⟨⟨some x, rfl⟩, Ex.mut (pe.trans e3) hn, zs ++ [.ref p], upd_same, by simp [z2]; omega, fun j y hj => ?_⟩
        rcases Nat.lt_or_ge j zs.length with q | q
        · rw [List.getElem?_append_left q] at hj
          exact z_Lb T _ _ _ _ ez (z_Lb T _ _ _ _ (Ex.z e3) (z3 j y hj))
        · rw [List.getElem?_append_right q] at hj
          have ej : j - zs.length = 0 := by
            rcases Nat.eq_zero_or_pos (j - zs.length) with r | r
            · exact r
            · rw [List.getElem?_eq_none (by simp; omega)] at hj
              cases hj
          rw [ej] at hj
          have : V.ref p = y := Option.some.inj hj
          subst this
          have ej2 : j = M.arm.caps.length + i := by omega
          subst ej2
          have eb : (blsM M).getD (M.arm.caps.length + i) default = (M.arm.joints.length, M.held.getD i default) := by
            unfold blsM
            rw [List.getD_eq_getElem?_getD, List.getD_eq_getElem?_getD, List.getElem?_append_right (by omega), List.getElem?_map, Nat.add_sub_cancel_left, List.getElem?_eq_getElem hil]
            rfl
          rw [eb]
          exact z_Lb T _ _ _ _ ez ⟨p, x, rfl, st_of hq, z_Body T _ _ _ _ (Ex.z e3) hb⟩
      · obtain ⟨⟨x2, rfl⟩, pe, zs, z1, z2, z3⟩ := p
        refine EvS.go (z_retV (v := .ref l) (by walk_at "ev") fun H3 e3 => ?_)
        refine k _ H3 (pe.trans e3) ⟨l, zs, rfl, e3 _ _ z1, by rw [z2]; unfold blsM; simp; omega, fun j y hj => z_Lb T _ _ _ _ (Ex.z e3) (z3 j y hj)⟩
end
/-! unknowns, pairs. -/
section
variable {P : Program} {w : World} {K : PySem.W.Frag} {mg : Str → Option Value} {base : Heap}
/-- a mover of moderate size -/
structure MSm (M : MoverD) : Prop where
  c8 : M.arm.caps.length ≤ 8
  h8 : M.held.length ≤ 8
  j6 : M.arm.joints.length ≤ 6
  b8 : M.arm.beside.length ≤ 1000
theorem ep_bodies (T : Tx K mg) {σ : L2.St} {H : Hp} {ta : TE} {mv : V} {M : MoverD} {E : XK} (ha : Ev ta σ H mv) (hM : MoverAt K M mv H) (s : MSm M) :
    EvP (tMeth (He.ga K "Mover") "bodies" (sp_Mover_bodies K) [] E ta tNil) σ H (LsP (blsM M).length fun i => LbAt K ((blsM M).getD i default)) := by
  obtain ⟨a, dx, av, mov, th, rfl, hi, _⟩ := id hM
  exact ep_meth ha hi rfl epa_nil fun vs H1 e hvs Q k E => by
    subst hvs
    exact ⟨_, M, rfl, z_Mover T M _ _ _ (Ex.z e) hM, s.c8, s.h8, s.j6, k⟩
def sp_Mover_unknowns (K : PySem.W.Frag) : Sp := fun vs H Q _ => ∃ (mv : V) (M : MoverD) (hl : Addr) (hs : List Int), vs = [mv, .ref hl] ∧ MoverAt K M mv H ∧ MSm M ∧ SqL K H hl (hs.map V.int) ∧
  (∀ i, i < (blsM M).length → UkOk M.arm.joints hs ((blsM M).getD i default).1 ∧ Sm ((blsM M).getD i default).2.first ∧ Sm ((blsM M).getD i default).2.last) ∧
  Ret (IsL ((List.range (blsM M).length).map fun i => V.int (unkM lenUp M.arm.joints hs ((blsM M).getD i default).1 ((blsM M).getD i default).2))) H Q
theorem blsM_len (M : MoverD) : (blsM M).length = M.arm.caps.length + M.held.length := by
  unfold blsM
  simp
theorem ok_Mover_unknowns (T : Tx K mg) : FnOk P w K mg base CX0 4 (He.fAd K d_Mover_unknowns.at_) (fd_Mover_unknowns T) ["self", "halves"] (sp_Mover_unknowns K) := by
  refine (F_Mover_unknowns T).ok sc_Mover_unknowns (fun vs H Q E h => ?_) (fun cdv A outer s H vs Q E hr h => ?_)
  · obtain ⟨mv, M, hl, hs, rfl, _⟩ := h
    rfl
  · obtain ⟨mv, M, hl, hs, rfl, hM, sm, hL, ok, k⟩ := h
    obtain ⟨a, dx, av, mov, th, rfl, ha, hA, hMv, hH⟩ := id hM
    have bl := blsM_len M
    have c8 := sm.c8
    have h8 := sm.h8
    refine ⟨_, PSs.nox (pss_one (ps_ret (pe_lc (own := [("link", 2), ("body", 3)]) (g := (gTup K 2 (gCons (gName 2) (gCons (gName 3) gNil)))) (tt := tYes) rfl sc_Mover_unknowns.nd (pi_listK (K := K) (pe_meth0 (pv 0) (c_Mover T) (m_Mover_bodies T) (ok_Mover_bodies T) (hr.mono (by decide)) (b_Mover_bodies T) .nil pass0)) (blkOk_by (own := [("link", 2), ("body", 3)]) (N := ["self", "halves", "link", "body"]) (sc := defScope s_Mover_unknowns) (by decide +kernel)) (fun _ _ _ _ _ => (pg_tupK (K := K) rfl (pgs_cons (pg_name (i := 2) sc_Mover_unknowns.nd rfl (Or.inl rfl)) (pgs_cons (pg_name (i := 3) sc_Mover_unknowns.nd rfl (Or.inl rfl)) pgs_nil)))) (fun _ _ _ _ _ => pts_nil) (fun _ _ _ _ _ => (pe_call (ok_unknown T) (hr.mono (by decide)) rfl (g_unknown T) (F_unknown T).kp (b_unknown T) .nil pass0 (pa_cons (pe_fldK (K := K) (pv 0) rfl) (pa_cons (pv 1) (pa_cons (pv 2) (pa_cons (pv 3) pa_nil))))))))), ?_⟩
    walk_at "n0"
    refine EvS.go ?_
    refine z_ret (P := IsL ((List.range (blsM M).length).map fun i => V.int (unkM lenUp M.arm.joints hs ((blsM M).getD i default).1 ((blsM M).getD i default).2))) (EvP.weak (ep_lcG (K := K) (B := fun xs H1 => ∀ (i : Nat) y, xs[i]? = some y → LbAt K ((blsM M).getD i default) y H1) (n := (blsM M).length) (Pi := fun i v _ => v = V.int (unkM lenUp M.arm.joints hs ((blsM M).getD i default).1 ((blsM M).getD i default).2))
      (ep_bodies T (by walk_at "ev") hM sm) (fun xs H1 H2 e hb i y q => (z_Lb T _).up _ _ _ e (hb i y q)) (by omega) (fun _ => upz_val) fun xs H1 e hxl hb i x R hi hR => ?_) fun v H1 _ h => h.vals) k
    obtain ⟨p, bv, rfl, hp, hbv⟩ := hb i x hi
    refine g_pair hp (hR _ (by rfl) ?_)
    have hlt : i < (blsM M).length := by have := (List.getElem?_eq_some_iff.mp hi).1; omega
    have hA := z_Arm T _ _ _ _ (Ex.z e) hA
    have ha := e _ _ ha
    have hL := ex_l e hL
    obtain ⟨o1, o2, o3⟩ := ok i hlt
    generalize (blsM M).getD i default = c at *
    walk_at "nf"
    refine ep_call (vs := [av, .ref hl, .int (c.1 : Int), bv]) (by walk_at "ea") fun H3 e3 Q k E => ?_
    exact ⟨av, bv, hl, M.arm, hs, c.1, c.2, rfl, z_Arm T _ _ _ _ (Ex.z e3) hA, ex_l e3 hL, z_Body T _ _ _ _ (Ex.z e3) hbv, o2, o3, o1, k⟩
def sp_Matter_init (K : PySem.W.Frag) : Sp := fun vs H Q _ => ∃ (M : MoverD) (mv : V) (x dx : Addr) (H0 : Hp), vs = [.ref x, .str "self", mv, .non] ∧ Ex H0 H ∧ H0 x = none ∧ H x = some (.ins (He.ga K "Matter") dx []) ∧ MoverAt K M mv H0 ∧
  ∀ H2, Ex H0 H2 → MatterAt K M (.ref x) H2 → Q .non H2
theorem ok_Matter_init (T : Tx K mg) : FnOk P w K mg base CX0 1 (He.fAd K d_Matter_init.at_) (fd_Matter_init T) ["self", "kind", "mover", "other"] (sp_Matter_init K) := by
  refine (F_Matter_init T).ok sc_Matter_init (fun vs H Q E h => ?_) (fun cdv A outer s H vs Q E hr h => ?_)
  · obtain ⟨M, mv, x, dx, H0, rfl, _⟩ := h
    rfl
  · obtain ⟨M, mv, x, dx, H0, rfl, e0, hn, hx, hM, k⟩ := h
    refine ⟨_, PSs.nox (pss_cons (ps_fldK (K := K) (pv 0) (pv 1) rfl)
      (pss_cons (ps_fldK (K := K) (pv 0) (pv 2) rfl)
      (pss_one (ps_fldK (K := K) (pv 0) (pv 3) rfl)))), ?_⟩
    walk_at "n0"
    refine EvI.go ?_ e0 hx
    refine zi_fld (c_Matter T) (n_Matter_kind T) hn (by walk_at "ev") (by walk_at "ev") rfl (Nat.le_of_ble_eq_true rfl) ?_
    refine zi_fld (c_Matter T) (n_Matter_mover T) hn (by walk_at "ev") (by walk_at "ev") rfl (Nat.le_of_ble_eq_true rfl) ?_
    refine zi_fldl (c_Matter T) (n_Matter_other T) hn (by walk_at "ev") (by walk_at "ev") rfl (Nat.le_of_ble_eq_true rfl) fun H2 e2 hx2 => ?_
    exact k H2 e2 ⟨x, dx, mv, rfl, hx2, z_Mover T _ _ _ _ (Ex.z e2) hM⟩
def linksM (M : MoverD) : List Int := (blsM M).map fun c => (c.1 : Int)
def sp_Matter_pairs (K : PySem.W.Frag) : Sp := fun vs H Q _ => ∃ (mv : V) (M : MoverD), vs = [mv] ∧ MatterAt K M mv H ∧ MSm M ∧ Ret (fun v H2 => ∃ l zs, v = .ref l ∧ H2 l = some (.lst zs) ∧ Items K zs (pairsM (linksM M) M.arm.beside) H2) H Q
theorem dec_skip {a : Str} {b : Str} (h : decide (a = b) = false) : decide (a = b) = false := h
theorem ok_Matter_pairs (T : Tx K mg) : FnOk P w K mg base CX0 2 (He.fAd K d_Matter_pairs.at_) (fd_Matter_pairs T) ["self"] (sp_Matter_pairs K) := by
  refine (F_Matter_pairs T).ok sc_Matter_pairs (fun vs H Q E h => ?_) (fun cdv A outer s H vs Q E hr h => ?_)
  · obtain ⟨mv, M, rfl, _⟩ := h
    rfl
  · obtain ⟨mv, M, rfl, hT, sm, k⟩ := h
    obtain ⟨a, dx, mo, rfl, ha, hM⟩ := id hT
    obtain ⟨ma, mdx, av, mov, th, rfl, hm, hA, hMv, hH⟩ := id hM
    obtain ⟨aa, adx, tj, tc, tb, rfl, haa, hj, hc, ⟨yb, hb1, hb2, hb3⟩⟩ := id hA
    have bl := blsM_len M
    have c8 := sm.c8
    have h8 := sm.h8
    refine ⟨_, PSs.nox (pss_cons (ps_set (i := 1) sc_Matter_pairs.nd rfl (Or.inl rfl) (pe_callB (k_lenK (K := K)) rfl (gf_len T) PySem.boot_len (pa_cons (pe_meth0 (pe_fldK (K := K) (pv 0) rfl) (c_Mover T) (m_Mover_bodies T) (ok_Mover_bodies T) (hr.mono (by decide)) (b_Mover_bodies T) .nil pass0) pa_nil)))
      (pss_cons (ps_if (pt_cmpR op_eq (pe_fldK (K := K) (pv 0) rfl) pe_str (nomark _)) (pss_one ps_never) pss_nil)
      (pss_cons (ps_if (pt_cmpR op_eq (pe_fldK (K := K) (pv 0) rfl) pe_str (nomark _)) (pss_one ps_never) pss_nil)
      (pss_cons (ps_setLc (i := 4) (own := [("link", 6), ("body", 7)]) (g := (gTup K 2 (gCons (gName 6) (gCons (gName 7) gNil)))) (tt := tYes) rfl sc_Matter_pairs.nd rfl rfl (sw_true rfl rfl rfl (by decide +kernel)) (pi_listK (K := K) (pe_meth0 (pe_fldK (K := K) (pv 0) rfl) (c_Mover T) (m_Mover_bodies T) (ok_Mover_bodies T) (hr.mono (by decide)) (b_Mover_bodies T) .nil pass0)) (blkOk_by (own := [("link", 6), ("body", 7)]) (N := ["self", "many", "k", "j", "links", "row", "link", "body"]) (sc := defScope s_Matter_pairs) (by decide +kernel)) (fun _ _ _ _ _ => (pg_tupK (K := K) rfl (pgs_cons (pg_name (i := 6) sc_Matter_pairs.nd rfl (Or.inl rfl)) (pgs_cons (pg_name (i := 7) sc_Matter_pairs.nd rfl (Or.inl rfl)) pgs_nil)))) (fun _ _ _ _ _ => pts_nil) (fun _ _ _ _ _ => (pv 6)))
      (pss_cons (ps_set (i := 5) sc_Matter_pairs.nd rfl (Or.inl rfl) (pe_lst pa_nil))
      (pss_cons (ps_for PassesOwn.never rfl (pi_range1 rfl (gf_range T) (pa_cons (pv 1) pa_nil)) (pg_name (i := 2) sc_Matter_pairs.nd rfl (Or.inl rfl)) (pss_one (ps_for PassesOwn.never rfl (pi_range2 rfl (gf_range T) (pa_cons (pe_op op_add (pv 2) pe_int) (pa_cons (pv 1) pa_nil))) (pg_name (i := 3) sc_Matter_pairs.nd rfl (Or.inl rfl)) (pss_one (ps_if (PW.pt (pw_and (pt_cmpR op_gt (pe_callB k_abs rfl (gf_abs T) (by decide +kernel) (pa_cons (pe_op op_sub (pe_ix (ix_listK (K := K)) (pv 4) (pv 2) (fun _ _ => rfl)) (pe_ix (ix_listK (K := K)) (pv 4) (pv 3) (fun _ _ => rfl))) pa_nil)) pe_int (nomark _)) (pw_and1 (pt_cmpR (op_notInDK (K := K) (hu65 hr)) (pe_tup (pa_cons (pv 2) (pa_cons (pv 3) pa_nil))) (pe_fldK (K := K) (pe_fldK (K := K) (pe_fldK (K := K) (pv 0) rfl) rfl) rfl) (by rfl))))) (pss_one (ps_expr (pe_bmK (K := K) PySem.F.plainAttrs_list PySem.F.slot_list_append PySem.F.type_list_append mt_append (pv 5) (pa_cons (pe_tup (pa_cons (pv 2) (pa_cons (pv 3) pa_nil))) pa_nil)))) pss_nil)))))
      (pss_one (ps_ret (pv 5))))))))), ?_⟩
    walk_at "n0"
    refine EvS.go ?_
    refine z_asgP (P := fun v _ => v = .int ((blsM M).length : Int)) (ep_cb (epaP (ep_bodies T (by walk_at "ev") hM sm) (up_lsP fun i => (z_Lb T _).up) epa_nil) fun vs H1 e hvs Q k => ?_) fun v H1 e hv => ?_
    · obtain ⟨x, r, rfl, ⟨p, ys, rfl, y1, y2, _⟩, rfl⟩ := hvs
      exact ⟨p, ys, rfl, .inl (sq_of y1), k _ _ (Ex.refl _) (by rw [y2])⟩
    subst hv
    walk_at "nf"
    have ha1 := e _ _ ha
    have hT1 := z_Matter T _ _ _ _ (Ex.z e) hT
    have hM1 := z_Mover T _ _ _ _ (Ex.z e) hM
    have e1 : decide (("self" : Str) = "shape") = false := by decide +kernel
    have e2 : decide (("self" : Str) = "arms") = false := by decide +kernel
    refine z_skip (et_is (by walk_at "et") e1) ?_
    refine z_skip (et_is (by walk_at "et") e2) ?_
    refine z_asgP (P := IsL ((linksM M).map V.int)) (EvP.weak (ep_lcG (K := K) (B := fun xs H1 => ∀ (i : Nat) y, xs[i]? = some y → LbAt K ((blsM M).getD i default) y H1) (n := (blsM M).length) (Pi := fun i v _ => v = V.int ((blsM M).getD i default).1)
      (ep_bodies T (by walk_at "ev") hM1 sm) (fun xs H1 H2 e hb i y q => (z_Lb T _).up _ _ _ e (hb i y q)) (by omega) (fun _ => upz_val) fun xs H1 e hxl hb i x R hi hR => ?_) fun v H1 _ h => ?_) fun v H2 e2 hv => ?_
    · obtain ⟨p, bv, rfl, hp, hbv⟩ := hb i x hi
      refine g_pair hp (hR _ (by rfl) ?_)
      walk_at "nf"
      exact ep_of (by walk_at "ev")
    · have q := h.vals
      have eq : (linksM M).map V.int = (List.range (blsM M).length).map fun i => V.int ((blsM M).getD i default).1 := by
        unfold linksM
        rw [List.map_map]
        apply List.ext_getElem?
        intro i
        rw [List.getElem?_map, List.getElem?_map]
        by_cases h : i < (blsM M).length
        · simp [h, List.getD_eq_getElem?_getD]
        · simp [h]
      rw [eq]
      exact q
    obtain ⟨lp, rfl, hlp⟩ := hv
    walk_at "nf"
    have ll : (linksM M).length = (blsM M).length := by unfold linksM; rw [List.length_map]
    have e02 := e.trans e2
    have ha2 := e02 _ _ ha
    have hlp2 : SqL K H2 lp ((linksM M).map V.int) := sq_of hlp
    have hm2 := e02 _ _ hm
    have haa2 := e02 _ _ haa
    have hb12 := ex_t e02 hb1
    have hb32 : ∀ (i : Nat) y, yb[i]? = some y → PairV K (M.arm.beside.getD i default) y H2 := fun i y q => upz_rdT.up _ _ _ e02 (hb3 i y q)
    generalize linksM M = ls at *
    rw [← ll] at bl ⊢
    have hl17 : ls.length ≤ 16 := by omega
    refine zm_new (by walk_at "ea") (Nat.le_of_ble_eq_true rfl) fun l hn => ?_
    walk_at "nf"
    intro H3 e3 hl3
    refine q_forR1 (n := (ls.length : Int)) (by walk_at "ea") (by omega) (fun i σ' H' => (∃ xk xj, σ' = [some (.ref a), some (.int (ls.length : Int)), xk, xj, some (.ref lp), some (.ref l), none, none]) ∧ Ex H2 H' ∧ ∃ zs, H' l = some (.lst zs) ∧ Items K zs (outerP ls M.arm.beside i) H') (fun H4 e4 => ⟨⟨none, none, rfl⟩, e3.trans e4, [], e4 _ _ hl3, rfl, fun j y q => by simp at q⟩) (fun i σ' H' hi p => ?_) (fun σ' H' p => ?_)
    · obtain ⟨⟨xk, xj, rfl⟩, pe, zs, hz, it⟩ := p
      have hi1 : i < ls.length := by omega
      walk_at "nf"
      refine s_forR2 (lo := (i : Int) + 1) (n := (ls.length : Int)) (by walk_at "ea") (by omega) (fun m σ' H' => (∃ xj, σ' = [some (.ref a), some (.int (ls.length : Int)), some (.int (i : Int)), xj, some (.ref lp), some (.ref l), none, none]) ∧ Ex H2 H' ∧ ∃ zs, H' l = some (.lst zs) ∧ Items K zs (outerP ls M.arm.beside i ++ innerP ls M.arm.beside i m) H') (fun H4 e4 => ⟨⟨xj, rfl⟩, pe.trans e4, zs, e4 _ _ hz, by rw [show innerP ls M.arm.beside i 0 = [] from rfl, List.append_nil]; exact it.mz (Ex.z e4)⟩) (fun m σ' H' hm' p => ?_) (fun σ' H' p => ?_)
      · obtain ⟨⟨xj, rfl⟩, pe, zs, hz, it⟩ := p
        have hj1 : i + 1 + m < ls.length := by omega
        have ej : ((i : Int) + 1 + (m : Int)) = ((i + 1 + m : Nat) : Int) := by omega
        rw [ej]
        have li := ints_at hi1
        have lj := ints_at hj1
        have ha3 := pe _ _ ha2
        have hm3 := pe _ _ hm2
        have haa3 := pe _ _ haa2
        have hlp3 := ex_l pe hlp2
        have hb13 := ex_t pe hb12
        have hb33 : ∀ (i : Nat) y, yb[i]? = some y → PairV K (M.arm.beside.getD i default) y H' := fun i y q => upz_rdT.up _ _ _ pe (hb32 i y q)
        have len := it.1
        have l1 := outerP_len ls M.arm.beside i
        have l2 := innerP_len ls M.arm.beside i m
        have l3 : i * ls.length ≤ 16 * 16 := Nat.mul_le_mul (by omega) hl17
        rw [List.length_append] at len
        walk_at "nf"
        refine s_when (b := okP ls M.arm.beside i (i + 1 + m)) (et_is (et_and (et_test (by walk_at "ev")) fun _ => et_test (ev_niD (by walk_at "ea") (by walk_at "ev") hb13 hb2 hb33)) rfl) (fun hb H4 e4 => ?_) (fun hb H4 e4 => ?_)
        · refine s_appU (l := l) (xs := zs) (ys := [.int (i : Int), .int ((i + 1 + m : Nat) : Int)]) (e4 _ _ hz) (by walk_at "ev") (eu_tup (by walk_at "ea") (Nat.le_of_ble_eq_true rfl)) (by omega) fun p H5 hp e5 hq => ?_
          have ez : Ez K H5 (upd H5 l (.lst (zs ++ [.ref p]))) := Ez.lst (e5 _ _ (e4 _ _ hz))
          refine ⟨⟨_, rfl⟩, Ex.mut ((pe.trans e4).trans e5) hn, zs ++ [.ref p], upd_same, ?_⟩
          show Items K _ (outerP ls M.arm.beside i ++ (if okP ls M.arm.beside i (i + 1 + m) = true then innerP ls M.arm.beside i m ++ [((i : Int), ((i + 1 + m : Nat) : Int))] else innerP ls M.arm.beside i m)) _
          rw [if_pos hb, ← List.append_assoc]
          exact ((it.mz (Ex.z (e4.trans e5))).app ⟨p, rfl, st_of hq⟩).mz ez
        · refine ⟨⟨_, rfl⟩, pe.trans e4, zs, e4 _ _ hz, ?_⟩
          show Items K _ (outerP ls M.arm.beside i ++ (if okP ls M.arm.beside i (i + 1 + m) = true then innerP ls M.arm.beside i m ++ [((i : Int), ((i + 1 + m : Nat) : Int))] else innerP ls M.arm.beside i m)) _
          rw [if_neg (by rw [hb]; decide)]
          exact it.mz (Ex.z e4)
      · obtain ⟨⟨xj, rfl⟩, pe, zs, hz, it⟩ := p
        refine ⟨⟨_, xj, rfl⟩, pe, zs, hz, ?_⟩
        have et : ((ls.length : Int) - ((i : Int) + 1)).toNat = ls.length - (i + 1) := by omega
        rw [et] at it
        exact it
    · obtain ⟨⟨xk, xj, rfl⟩, pe, zs, hz, it⟩ := p
      have et : ((ls.length : Int)).toNat = ls.length := by omega
      rw [et] at it
      refine EvS.go (z_retV (v := .ref l) (by walk_at "ev") fun H4 e4 => ?_)
      exact k _ H4 ((e02.trans pe).trans e4) ⟨l, zs, rfl, e4 _ _ hz, it.mz (Ex.z e4)⟩
end
/-! Bodies, joints, arms, movers, matters as integers. -/
def bodyN (b : BodyD) : List Int := [b.first.x, b.first.y, b.first.z, b.last.x, b.last.y, b.last.z, b.radius]
def jointN (j : JointD) : List Int := [if j.turns = true then 1 else 0, (j.axis : Int), j.offset.x, j.offset.y, j.offset.z, j.least, j.most, j.box, j.error, 1, 1, 1]
def capN (c : Nat × BodyD) : List Int := (c.1 : Int) :: bodyN c.2
def pairN (q : Int × Int) : List Int := [q.1, q.2]
def armN (A : ArmD) : List Int := (A.joints.length : Int) :: A.joints.flatMap jointN ++ ((A.caps.length : Int) :: A.caps.flatMap capN) ++ ((A.beside.length : Int) :: A.beside.flatMap pairN)
def moverN (M : MoverD) : List Int := armN M.arm ++ M.first ++ M.last ++ ((M.held.length : Int) :: M.held.flatMap bodyN)
def matterN (M : MoverD) : List Int := 1 :: moverN M
theorem take_snoc {α : Type} {l : List α} {i : Nat} {x : α} (h : l[i]? = some x) : l.take (i + 1) = l.take i ++ [x] := by
  rw [List.take_succ, h] <;> rfl
theorem flat_len {α : Type} {f : α → List Int} {c : Nat} (hf : ∀ x, (f x).length ≤ c) : ∀ l : List α, (l.flatMap f).length ≤ l.length * c
  | [] => by simp
  | x :: r => by
    have := hf x
    have := flat_len hf r
    simp only [List.flatMap_cons, List.length_append, List.length_cons, Nat.succ_mul]
    omega
theorem getD_at {α : Type} [Inhabited α] {l : List α} {i : Nat} (h : i < l.length) : l[i]? = some (l.getD i default) := by
  rw [List.getD_eq_getElem?_getD, List.getElem?_eq_getElem h] <;> rfl
section
variable {P : Program} {w : World} {K : PySem.W.Frag} {mg : Str → Option Value} {base : Heap}
def sp_body_numbers (K : PySem.W.Frag) : Sp := fun vs H Q _ => ∃ (bv : V) (b : BodyD), vs = [bv] ∧ BodyAt K b bv H ∧ Ret (IsL ((bodyN b).map V.int)) H Q
theorem ok_body_numbers (T : Tx K mg) : FnOk P w K mg base CX0 1 (He.fAd K d_body_numbers.at_) (fd_body_numbers T) ["body"] (sp_body_numbers K) := by
  refine (F_body_numbers T).ok sc_body_numbers (fun vs H Q E h => ?_) (fun cdv A outer s H vs Q E hr h => ?_)
  · obtain ⟨bv, b, rfl, _⟩ := h
    rfl
  · obtain ⟨bv, b, rfl, hb, k⟩ := h
    obtain ⟨a, dx, o1, o2, rfl, ha, h1, h2⟩ := id hb
    refine ⟨_, PSs.nox (pss_one (ps_ret (pe_lst (pa_starK (K := K) (pe_fldK (K := K) (pv 0) rfl) (pa_starK (K := K) (pe_fldK (K := K) (pv 0) rfl) (pa_cons (pe_fldK (K := K) (pv 0) rfl) pa_nil)))))), ?_⟩
    walk_at "n0"
    refine EvS.go ?_
    refine z_ret (ep_lstV (ea_starT (by walk_at "ev") h1 (ea_starT (by walk_at "ev") h2 (by walk_at "ea"))) ?_) ?_
    · exact Nat.le_of_ble_eq_true rfl
    · exact k
theorem ep_bodyN (T : Tx K mg) {σ : L2.St} {H : Hp} {ta : TE} {bv : V} {b : BodyD} {E : XK} (ha : Ev ta σ H bv) (hb : BodyAt K b bv H) : EvP (tCall (sp_body_numbers K) [] E (tCons ta tNil)) σ H (IsL ((bodyN b).map V.int)) :=
  ep_call (vs := [bv]) (ea_cons ha ea_nil) fun H1 e Q k E => ⟨bv, b, rfl, z_Body T _ _ _ _ (Ex.z e) hb, k⟩
def sp_joint_numbers (K : PySem.W.Frag) : Sp := fun vs H Q _ => ∃ (jv : V) (j : JointD), vs = [jv] ∧ JointAt K j jv H ∧ Ret (IsL ((jointN j).map V.int)) H Q
theorem ok_joint_numbers (T : Tx K mg) : FnOk P w K mg base CX0 1 (He.fAd K d_joint_numbers.at_) (fd_joint_numbers T) ["joint"] (sp_joint_numbers K) := by
  refine (F_joint_numbers T).ok sc_joint_numbers (fun vs H Q E h => ?_) (fun cdv A outer s H vs Q E hr h => ?_)
  · obtain ⟨jv, j, rfl, _⟩ := h
    rfl
  · obtain ⟨jv, j, rfl, hj, k⟩ := h
    obtain ⟨a, dx, o, rfl, ha, ho⟩ := id hj
    refine ⟨_, PSs.nox (pss_cons (ps_set (i := 1) sc_joint_numbers.nd rfl (Or.inl rfl) (pe_lst (pa_cons (pe_callTy k_int1 rfl (gf_int T) (by decide +kernel) (pa_cons (pe_fldK (K := K) (pv 0) rfl) pa_nil)) (pa_cons (pe_fldK (K := K) (pv 0) rfl) (pa_starK (K := K) (pe_fldK (K := K) (pv 0) rfl) (pa_cons (pe_fldK (K := K) (pv 0) rfl) (pa_cons (pe_fldK (K := K) (pv 0) rfl) (pa_cons (pe_fldK (K := K) (pv 0) rfl) (pa_cons (pe_fldK (K := K) (pv 0) rfl) pa_nil)))))))))
      (pss_one (ps_ret (pe_lst (pa_starK (K := K) (pv 1) (pa_cons (pe_fldK (K := K) (pv 0) rfl) (pa_cons (pe_fldK (K := K) (pv 0) rfl) (pa_cons (pe_fldK (K := K) (pv 0) rfl) pa_nil)))))))), ?_⟩
    walk_at "n0"
    refine EvS.go ?_
    refine z_asgP (ep_lstV (ea_cons (by walk_at "ev") (ea_cons (by walk_at "ev") (ea_starT (by walk_at "ev") ho (by walk_at "ea")))) ?_) fun v H1 e hv => ?_
    · exact Nat.le_of_ble_eq_true rfl
    obtain ⟨l, rfl, hl⟩ := hv
    have hl2 := sq_of (K := K) hl
    have hj := z_Joint T _ _ _ _ (Ex.z e) hj
    walk_at "nf"
    refine z_ret (ep_lstV (ea_starL (by walk_at "ev") hl2 (by walk_at "ea")) ?_) ?_
    · exact Nat.le_of_ble_eq_true rfl
    · exact k.mono e
theorem ep_jointN (T : Tx K mg) {σ : L2.St} {H : Hp} {ta : TE} {v : V} {j : JointD} {E : XK} (ha : Ev ta σ H v) (hj : JointAt K j v H) : EvP (tCall (sp_joint_numbers K) [] E (tCons ta tNil)) σ H (IsL ((jointN j).map V.int)) :=
  ep_call (vs := [v]) (ea_cons ha ea_nil) fun H1 e Q k E => ⟨v, j, rfl, z_Joint T _ _ _ _ (Ex.z e) hj, k⟩
def sp_arm_numbers (K : PySem.W.Frag) : Sp := fun vs H Q _ => ∃ (av : V) (A : ArmD), vs = [av] ∧ ArmAt K A av H ∧ A.joints.length ≤ 6 ∧ A.caps.length ≤ 8 ∧ A.beside.length ≤ 1000 ∧ Ret (IsL ((armN A).map V.int)) H Q
theorem ok_arm_numbers (T : Tx K mg) : FnOk P w K mg base CX0 2 (He.fAd K d_arm_numbers.at_) (fd_arm_numbers T) ["arm"] (sp_arm_numbers K) := by
  refine (F_arm_numbers T).ok sc_arm_numbers (fun vs H Q E h => ?_) (fun cdv A outer s H vs Q E hr h => ?_)
  · obtain ⟨av, A, rfl, _⟩ := h
    rfl
  · obtain ⟨av, A, rfl, hA, j6, c8, b8, k⟩ := h
    obtain ⟨a, dx, tj, tc, tb, rfl, ha, ⟨yj, j1, j2, j3⟩, ⟨yc, c1, c2, c3⟩, ⟨yb, b1, b2, b3⟩⟩ := id hA
    have lj : ∀ i, ((A.joints.take i).flatMap jointN).length ≤ 72 := fun i => by
      have h1 := flat_len (f := jointN) (c := 12) (fun x => Nat.le_refl 12) (A.joints.take i)
      have h2 : (A.joints.take i).length ≤ 6 := by rw [List.length_take]; omega
      omega
    have lc : ∀ i, ((A.caps.take i).flatMap capN).length ≤ 64 := fun i => by
      have h1 := flat_len (f := capN) (c := 8) (fun x => Nat.le_refl 8) (A.caps.take i)
      have h2 : (A.caps.take i).length ≤ 8 := by rw [List.length_take]; omega
      omega
    have lb : ∀ i, ((A.beside.take i).flatMap pairN).length ≤ 2000 := fun i => by
      have h1 := flat_len (f := pairN) (c := 2) (fun x => Nat.le_refl 2) (A.beside.take i)
      have h2 : (A.beside.take i).length ≤ 1000 := by rw [List.length_take]; omega
      omega
    refine ⟨_, PSs.nox (pss_cons (ps_set (i := 1) sc_arm_numbers.nd rfl (Or.inl rfl) (pe_lst (pa_cons (pe_callB (k_lenK (K := K)) rfl (gf_len T) PySem.boot_len (pa_cons (pe_fldK (K := K) (pv 0) rfl) pa_nil)) pa_nil)))
      (pss_cons (ps_for PassesOwn.never rfl (pi_tupK (K := K) (pe_fldK (K := K) (pv 0) rfl)) (pg_name (i := 2) sc_arm_numbers.nd rfl (Or.inl rfl)) (pss_one (ps_expr (pe_bmK (K := K) PySem.F.plainAttrs_list PySem.F.slot_list_extend PySem.F.type_list_extend mt_extend (pv 1) (pa_cons (pe_call (ok_joint_numbers T) (hr.mono (by decide)) rfl (g_joint_numbers T) (F_joint_numbers T).kp (b_joint_numbers T) .nil pass0 (pa_cons (pv 2) pa_nil)) pa_nil)))))
      (pss_cons (ps_expr (pe_bmK (K := K) PySem.F.plainAttrs_list PySem.F.slot_list_append PySem.F.type_list_append mt_append (pv 1) (pa_cons (pe_callB (k_lenK (K := K)) rfl (gf_len T) PySem.boot_len (pa_cons (pe_fldK (K := K) (pv 0) rfl) pa_nil)) pa_nil)))
      (pss_cons (ps_for PassesOwn.never rfl (pi_tupK (K := K) (pe_fldK (K := K) (pv 0) rfl)) (pg_name (i := 3) sc_arm_numbers.nd rfl (Or.inl rfl)) (pss_one (ps_expr (pe_bmK (K := K) PySem.F.plainAttrs_list PySem.F.slot_list_extend PySem.F.type_list_extend mt_extend (pv 1) (pa_cons (pe_lst (pa_cons (pe_fldK (K := K) (pv 3) rfl) (pa_starK (K := K) (pe_call (ok_body_numbers T) (hr.mono (by decide)) rfl (g_body_numbers T) (F_body_numbers T).kp (b_body_numbers T) .nil pass0 (pa_cons (pe_fldK (K := K) (pv 3) rfl) pa_nil)) pa_nil))) pa_nil)))))
      (pss_cons (ps_expr (pe_bmK (K := K) PySem.F.plainAttrs_list PySem.F.slot_list_append PySem.F.type_list_append mt_append (pv 1) (pa_cons (pe_callB (k_lenK (K := K)) rfl (gf_len T) PySem.boot_len (pa_cons (pe_fldK (K := K) (pv 0) rfl) pa_nil)) pa_nil)))
      (pss_cons (ps_for PassesOwn.never rfl (pi_tupK (K := K) (pe_fldK (K := K) (pv 0) rfl)) (pg_tupK (K := K) rfl (pgs_cons (pg_name (i := 4) sc_arm_numbers.nd rfl (Or.inl rfl)) (pgs_cons (pg_name (i := 5) sc_arm_numbers.nd rfl (Or.inl rfl)) pgs_nil))) (pss_one (ps_expr (pe_bmK (K := K) PySem.F.plainAttrs_list PySem.F.slot_list_extend PySem.F.type_list_extend mt_extend (pv 1) (pa_cons (pe_lst (pa_cons (pv 4) (pa_cons (pv 5) pa_nil))) pa_nil)))))
      (pss_one (ps_ret (pv 1))))))))), ?_⟩
    walk_at "n0"
    refine EvS.go ?_
    refine zm_new (vs := [.int (A.joints.length : Int)]) (ea_cons (ev_is (by walk_at "ev") (by rw [j2])) ea_nil) (Nat.le_of_ble_eq_true rfl) fun l hn => ?_
    walk_at "nf"
    refine zm_forT (j := 2) hn (by walk_at "ev") j1 rfl (fun i => ((A.joints.length : Int) :: (A.joints.take i).flatMap jointN).map V.int) rfl (fun i y hi N B hN => ?_) fun w1 => ?_
    · have hj : JointAt K (A.joints.getD i default) y H := j3 i y hi
      have hil : i < A.joints.length := by have := (List.getElem?_eq_some_iff.mp hi).1; omega
      have hlj := lj i
      walk_at "nf"
      refine sm_ext hn (by walk_at "ev") (ep_jointN T (by walk_at "ev") hj) (by simp only [List.length_map, List.length_cons]; show _ + 12 ≤ _; omega) fun H1 e1 hl1 => hN H1 e1 ?_
      rw [take_snoc (getD_at hil), List.flatMap_append, List.flatMap_singleton, ← List.cons_append, List.map_append]
      exact hl1
    have e1 : A.joints.take yj.length = A.joints := by rw [j2, List.take_length]
    rw [e1]
    have lj6 := lj yj.length
    rw [e1] at lj6
    walk_at "nf"
    refine zm_app (v := .int (A.caps.length : Int)) hn (by walk_at "ev") (ev_is (by walk_at "ev") (by rw [c2])) (by simp only [List.length_map, List.length_cons]; omega) ?_
    have e2 : ((A.joints.length : Int) :: A.joints.flatMap jointN).map V.int ++ [V.int (A.caps.length : Int)] = (((A.joints.length : Int) :: A.joints.flatMap jointN) ++ ((A.caps.length : Int) :: (A.caps.take 0).flatMap capN)).map V.int := by
      rw [List.map_append] <;> rfl
    refine zm_forT (j := 3) hn (by walk_at "ev") c1 rfl (fun i => (((A.joints.length : Int) :: A.joints.flatMap jointN) ++ ((A.caps.length : Int) :: (A.caps.take i).flatMap capN)).map V.int) e2.symm (fun i y hi N B hN => ?_) fun w2 => ?_
    · have hc : CapAt K (A.caps.getD i default) y H := c3 i y hi
      have hil : i < A.caps.length := by have := (List.getElem?_eq_some_iff.mp hi).1; omega
      have hlc := lc i
      have et := take_snoc (getD_at hil)
      generalize A.caps.getD i default = cp at *
      obtain ⟨ca, cdx, bv, rfl, hc4, hc5⟩ := id hc
      walk_at "nf"
      refine sm_ext (ys := (capN cp).map V.int) hn (by walk_at "ev") (ep_lstV (ea_cons (by walk_at "ev") (ea_starP1 (ep_bodyN T (by walk_at "ev") hc5))) (Nat.le_of_ble_eq_true rfl)) (by simp only [List.length_map, List.length_cons, List.length_append]; show _ + 8 ≤ _; omega) fun H1 e1 hl1 => hN H1 e1 ?_
      rw [et, List.flatMap_append, List.flatMap_singleton, ← List.cons_append, ← List.append_assoc, List.map_append]
      exact hl1
    have e3 : A.caps.take yc.length = A.caps := by rw [c2, List.take_length]
    rw [e3]
    have lc8 := lc yc.length
    rw [e3] at lc8
    walk_at "nf"
    refine zm_app (v := .int (A.beside.length : Int)) hn (by walk_at "ev") (ev_is (by walk_at "ev") (by rw [b2])) (by simp only [List.length_map, List.length_cons, List.length_append]; omega) ?_
    have e4 : (((A.joints.length : Int) :: A.joints.flatMap jointN) ++ ((A.caps.length : Int) :: A.caps.flatMap capN)).map V.int ++ [V.int (A.beside.length : Int)] = ((((A.joints.length : Int) :: A.joints.flatMap jointN) ++ ((A.caps.length : Int) :: A.caps.flatMap capN)) ++ ((A.beside.length : Int) :: (A.beside.take 0).flatMap pairN)).map V.int := by
      rw [List.map_append (l₂ := ((A.beside.length : Int) :: (A.beside.take 0).flatMap pairN))] <;> rfl
    refine zm_forT2 (j1 := 4) (j2 := 5) hn (by walk_at "ev") b1 (fun _ _ _ _ => rfl) rfl (fun i => ((((A.joints.length : Int) :: A.joints.flatMap jointN) ++ ((A.caps.length : Int) :: A.caps.flatMap capN)) ++ ((A.beside.length : Int) :: (A.beside.take i).flatMap pairN)).map V.int) e4.symm (fun i y hi => ?_) fun w3 w4 => ?_
    · have hq : PairAt K (A.beside.getD i default) y H := b3 i y hi
      have hil : i < A.beside.length := by have := (List.getElem?_eq_some_iff.mp hi).1; omega
      have hlb := lb i
      have et := take_snoc (getD_at hil)
      generalize A.beside.getD i default = q at *
      obtain ⟨p, rfl, hp⟩ := hq
      refine ⟨p, _, _, rfl, hp, fun N B hN => ?_⟩
      walk_at "nf"
      refine sm_ext (ys := (pairN q).map V.int) hn (by walk_at "ev") (ep_lstV (vs := [.int q.1, .int q.2]) (by walk_at "ea") (Nat.le_of_ble_eq_true rfl)) (by simp only [List.length_map, List.length_cons, List.length_append]; show _ + 2 ≤ _; omega) fun H1 e1 hl1 => hN H1 e1 ?_
      rw [et, List.flatMap_append, List.flatMap_singleton, ← List.cons_append, ← List.append_assoc, List.map_append]
      exact hl1
    have e5 : A.beside.take yb.length = A.beside := by rw [b2, List.take_length]
    rw [e5]
    walk_at "nf"
    exact zm_retL (by walk_at "ev") k
end
/-! Movers, matters, trees as integers. -/
theorem armN_len {A : ArmD} (j6 : A.joints.length ≤ 6) (c8 : A.caps.length ≤ 8) (b8 : A.beside.length ≤ 1000) : (armN A).length ≤ 2200 := by
  have h1 := flat_len (f := jointN) (c := 12) (fun x => Nat.le_refl 12) A.joints
  have h2 := flat_len (f := capN) (c := 8) (fun x => Nat.le_refl 8) A.caps
  have h3 := flat_len (f := pairN) (c := 2) (fun x => Nat.le_refl 2) A.beside
  unfold armN
  simp only [List.length_append, List.length_cons]
  omega
theorem moverN_len {M : MoverD} (sm : MSm M) (l1 : M.first.length ≤ 6) (l2 : M.last.length ≤ 6) : (moverN M).length ≤ 2300 := by
  have h1 := armN_len sm.j6 sm.c8 sm.b8
  have h2 := flat_len (f := bodyN) (c := 7) (fun x => Nat.le_refl 7) M.held
  have := sm.h8
  unfold moverN
  simp only [List.length_append, List.length_cons]
  omega
section
variable {P : Program} {w : World} {K : PySem.W.Frag} {mg : Str → Option Value} {base : Heap}
theorem ep_armN (T : Tx K mg) {σ : L2.St} {H : Hp} {ta : TE} {v : V} {A : ArmD} {E : XK} (ha : Ev ta σ H v) (hA : ArmAt K A v H) (j6 : A.joints.length ≤ 6) (c8 : A.caps.length ≤ 8) (b8 : A.beside.length ≤ 1000) :
    EvP (tCall (sp_arm_numbers K) [] E (tCons ta tNil)) σ H (IsL ((armN A).map V.int)) :=
  ep_call (vs := [v]) (ea_cons ha ea_nil) fun H1 e Q k E => ⟨v, A, rfl, z_Arm T _ _ _ _ (Ex.z e) hA, j6, c8, b8, k⟩
def sp_mover_numbers (K : PySem.W.Frag) : Sp := fun vs H Q _ => ∃ (mv : V) (M : MoverD), vs = [mv] ∧ MoverAt K M mv H ∧ MSm M ∧ M.first.length ≤ 6 ∧ M.last.length ≤ 6 ∧ Ret (IsL ((moverN M).map V.int)) H Q
theorem ok_mover_numbers (T : Tx K mg) : FnOk P w K mg base CX0 3 (He.fAd K d_mover_numbers.at_) (fd_mover_numbers T) ["mover"] (sp_mover_numbers K) := by
  refine (F_mover_numbers T).ok sc_mover_numbers (fun vs H Q E h => ?_) (fun cdv A outer s H vs Q E hr h => ?_)
  · obtain ⟨mv, M, rfl, _⟩ := h
    rfl
  · obtain ⟨mv, M, rfl, hM, sm, l1, l2, k⟩ := h
    obtain ⟨a, dx, av, mov, th, rfl, ha, hA, hMv, ⟨yh, h1, h2, h3⟩⟩ := id hM
    obtain ⟨ma, mdx, t1, t2, rfl, hma, ht1, ht2⟩ := id hMv
    have la := armN_len sm.j6 sm.c8 sm.b8
    have h8 := sm.h8
    have lb : ∀ i, ((M.held.take i).flatMap bodyN).length ≤ 56 := fun i => by
      have h1 := flat_len (f := bodyN) (c := 7) (fun x => Nat.le_refl 7) (M.held.take i)
      have h2 : (M.held.take i).length ≤ 8 := by rw [List.length_take]; omega
      omega
    refine ⟨_, PSs.nox (pss_cons (ps_set (i := 1) sc_mover_numbers.nd rfl (Or.inl rfl) (pe_lst (pa_starK (K := K) (pe_call (ok_arm_numbers T) (hr.mono (by decide)) rfl (g_arm_numbers T) (F_arm_numbers T).kp (b_arm_numbers T) .nil pass0 (pa_cons (pe_fldK (K := K) (pv 0) rfl) pa_nil)) (pa_starK (K := K) (pe_fldK (K := K) (pe_fldK (K := K) (pv 0) rfl) rfl) (pa_starK (K := K) (pe_fldK (K := K) (pe_fldK (K := K) (pv 0) rfl) rfl) (pa_cons (pe_callB (k_lenK (K := K)) rfl (gf_len T) PySem.boot_len (pa_cons (pe_fldK (K := K) (pv 0) rfl) pa_nil)) pa_nil))))))
      (pss_cons (ps_for PassesOwn.never rfl (pi_tupK (K := K) (pe_fldK (K := K) (pv 0) rfl)) (pg_name (i := 2) sc_mover_numbers.nd rfl (Or.inl rfl)) (pss_one (ps_expr (pe_bmK (K := K) PySem.F.plainAttrs_list PySem.F.slot_list_extend PySem.F.type_list_extend mt_extend (pv 1) (pa_cons (pe_call (ok_body_numbers T) (hr.mono (by decide)) rfl (g_body_numbers T) (F_body_numbers T).kp (b_body_numbers T) .nil pass0 (pa_cons (pv 2) pa_nil)) pa_nil)))))
      (pss_one (ps_ret (pv 1))))), ?_⟩
    walk_at "n0"
    refine EvS.go ?_
    refine zm_new (ea_starP (ep_armN T (by walk_at "ev") hA sm.j6 sm.c8 sm.b8) (ea_starT (by walk_at "ev") ht1 (ea_starT (by walk_at "ev") ht2 (ea_cons (ev_is (w := .int (M.held.length : Int)) (by walk_at "ev") (by rw [h2])) ea_nil)))) ?_ fun l hn => ?_
    · simp only [List.length_append, List.length_map, List.length_cons, List.length_nil]
      omega
    walk_at "nf"
    have e0 : (armN M.arm).map V.int ++ (M.first.map V.int ++ (M.last.map V.int ++ [V.int (M.held.length : Int)])) = (armN M.arm ++ M.first ++ M.last ++ ((M.held.length : Int) :: (M.held.take 0).flatMap bodyN)).map V.int := by
      simp only [List.map_append, List.append_assoc] <;> rfl
    refine zm_forT (j := 2) hn (by walk_at "ev") h1 rfl (fun i => (armN M.arm ++ M.first ++ M.last ++ ((M.held.length : Int) :: (M.held.take i).flatMap bodyN)).map V.int) e0.symm (fun i y hi N B hN => ?_) fun w1 => ?_
    · have hb : BodyAt K (M.held.getD i default) y H := h3 i y hi
      have hil : i < M.held.length := by have := (List.getElem?_eq_some_iff.mp hi).1; omega
      have hlb := lb i
      walk_at "nf"
      refine sm_ext hn (by walk_at "ev") (ep_bodyN T (by walk_at "ev") hb) (by simp only [List.length_map, List.length_cons, List.length_append]; show _ + 7 ≤ _; omega) fun H1 e1 hl1 => hN H1 e1 ?_
      rw [take_snoc (getD_at hil), List.flatMap_append, List.flatMap_singleton, ← List.cons_append, ← List.append_assoc, List.map_append]
      exact hl1
    have e1 : M.held.take yh.length = M.held := by rw [h2, List.take_length]
    rw [e1]
    walk_at "nf"
    exact zm_retL (by walk_at "ev") k
theorem ep_moverN (T : Tx K mg) {σ : L2.St} {H : Hp} {ta : TE} {v : V} {M : MoverD} {E : XK} (ha : Ev ta σ H v) (hM : MoverAt K M v H) (sm : MSm M) (l1 : M.first.length ≤ 6) (l2 : M.last.length ≤ 6) :
    EvP (tCall (sp_mover_numbers K) [] E (tCons ta tNil)) σ H (IsL ((moverN M).map V.int)) :=
  ep_call (vs := [v]) (ea_cons ha ea_nil) fun H1 e Q k E => ⟨v, M, rfl, z_Mover T _ _ _ _ (Ex.z e) hM, sm, l1, l2, k⟩
def sp_matter_numbers (K : PySem.W.Frag) : Sp := fun vs H Q _ => ∃ (mv : V) (M : MoverD), vs = [mv] ∧ MatterAt K M mv H ∧ MSm M ∧ M.first.length ≤ 6 ∧ M.last.length ≤ 6 ∧ Ret (IsL ((matterN M).map V.int)) H Q
theorem ev_kind (T : Tx K mg) {σ : L2.St} {H : Hp} {te : TE} (h : Ev te σ H (.str "self")) : Ev (tBM K "tuple" (rIdxT K) (tC (.ref (He.ga K "KINDS"))) (tCons te tNil)) σ H (.int 1) := fun H1 e Q q =>
  ⟨kinds_ty T H1, h H1 e _ fun H2 e2 => ⟨_, ["shape", "self", "arms"], "self", 1, rfl, rfl, kinds_t T H2, rfl, fun m hm => by
    have : m = 0 := by omega
    subst this
    decide +kernel, q H2 e2⟩⟩
theorem ok_matter_numbers (T : Tx K mg) : FnOk P w K mg base CX0 4 (He.fAd K d_matter_numbers.at_) (fd_matter_numbers T) ["matter"] (sp_matter_numbers K) := by
  refine (F_matter_numbers T).ok sc_matter_numbers (fun vs H Q E h => ?_) (fun cdv A outer s H vs Q E hr h => ?_)
  · obtain ⟨mv, M, rfl, _⟩ := h
    rfl
  · obtain ⟨mv, M, rfl, hT, sm, l1, l2, k⟩ := h
    obtain ⟨a, dx, mo, rfl, ha, hM⟩ := id hT
    refine ⟨_, PSs.nox (pss_cons (ps_set (i := 1) sc_matter_numbers.nd rfl (Or.inl rfl) (pe_lst (pa_cons (pe_bmK (K := K) PySem.F.plainAttrs_tuple PySem.F.slot_tuple_index PySem.F.type_tuple_index (mt_idxT (K := K)) (pe_globR rfl (g_KINDS T)) (pa_cons (pe_fldK (K := K) (pv 0) rfl) pa_nil)) (pa_starK (K := K) (pe_call (ok_mover_numbers T) (hr.mono (by decide)) rfl (g_mover_numbers T) (F_mover_numbers T).kp (b_mover_numbers T) .nil pass0 (pa_cons (pe_fldK (K := K) (pv 0) rfl) pa_nil)) pa_nil))))
      (pss_cons (ps_if (pt_cmpR op_eq (pe_fldK (K := K) (pv 0) rfl) pe_str (nomark _)) (pss_one ps_never) pss_nil)
      (pss_cons (ps_if (pt_cmpR op_eq (pe_fldK (K := K) (pv 0) rfl) pe_str (nomark _)) (pss_one ps_never) pss_nil)
      (pss_one (ps_ret (pv 1)))))), ?_⟩
    walk_at "n0"
    refine EvS.go ?_
    refine z_asgP (P := IsL ((matterN M).map V.int)) (ep_lstV (ea_cons (ev_kind T (by walk_at "ev")) (ea_starP1 (ep_moverN T (by walk_at "ev") hM sm l1 l2))) ?_) fun v H1 e hv => ?_
    · have := moverN_len sm l1 l2
      have : (matterN M).length = (moverN M).length + 1 := rfl
      simp only [List.length_cons, List.length_map]
      omega
    have hT := z_Matter T _ _ _ _ (Ex.z e) hT
    have ha := e _ _ ha
    walk_at "nf"
    have e1 : decide (("self" : Str) = "shape") = false := by decide +kernel
    have e2 : decide (("self" : Str) = "arms") = false := by decide +kernel
    refine z_skip (et_is (by walk_at "et") e1) ?_
    refine z_skip (et_is (by walk_at "et") e2) ?_
    refine z_ret (EvP.weak (ep_of (v := v) (by walk_at "ev")) fun u H2 e2 hu => ?_) (k.mono e)
    subst hu
    exact up_isL _ _ _ e2 hv
/-- the tree of one leaf, with no ways -/
def TreeAt (K : PySem.W.Frag) : VP := fun v H => ∃ p q, v = .ref p ∧ SqT K H p [.str "leaf", .ref q] ∧ SqT K H q []
theorem z_Tree : UpZ K (TreeAt K) := fun _ _ _ e ⟨p, q, r, h1, h2⟩ => ⟨p, q, r, e.sqt h1, e.sqt h2⟩
def sp_tree_numbers (K : PySem.W.Frag) : Sp := fun vs H Q _ => ∃ tv, vs = [tv] ∧ TreeAt K tv H ∧ Ret (IsL ([0, 0].map V.int)) H Q
theorem ok_tree_numbers (T : Tx K mg) : FnOk P w K mg base CX0 1 (He.fAd K d_tree_numbers.at_) (fd_tree_numbers T) ["tree"] (sp_tree_numbers K) := by
  refine (F_tree_numbers T).ok sc_tree_numbers (fun vs H Q E h => ?_) (fun cdv A outer s H vs Q E hr h => ?_)
  · obtain ⟨tv, rfl, _⟩ := h
    rfl
  · obtain ⟨tv, rfl, hT, k⟩ := h
    obtain ⟨p, q, rfl, hp, hq⟩ := id hT
    refine ⟨_, PSs.nox (pss_cons (ps_if (pt_cmpR op_eq (pe_ix (ix_tupK (K := K)) (pv 0) pe_int (fun _ _ => rfl)) pe_str (nomark _)) (pss_cons (ps_set (i := 1) sc_tree_numbers.nd rfl (Or.inl rfl) (pe_lst (pa_cons pe_int (pa_cons (pe_callB (k_lenK (K := K)) rfl (gf_len T) PySem.boot_len (pa_cons (pe_ix (ix_tupK (K := K)) (pv 0) pe_int (fun _ _ => rfl)) pa_nil)) pa_nil))))
      (pss_cons (ps_for PassesOwn.never rfl (pi_tupK (K := K) (pe_ix (ix_tupK (K := K)) (pv 0) pe_int (fun _ _ => rfl))) (pg_name (i := 2) sc_tree_numbers.nd rfl (Or.inl rfl)) (pss_one (ps_expr (pe_bmK (K := K) PySem.F.plainAttrs_list PySem.F.slot_list_extend PySem.F.type_list_extend mt_extend (pv 1) (pa_cons (pv 2) pa_nil)))))
      (pss_one (ps_ret (pv 1))))) pss_nil)
      (pss_one ps_never)), ?_⟩
    walk_at "n0"
    refine EvS.go ?_
    have e1 : decide (("leaf" : Str) = "leaf") = true := by decide +kernel
    refine z_ifret (b := true) (et_is (by walk_at "et") e1) (fun _ => ?_) (fun z => by cases z)
    refine zm_new (vs := [V.int 0, V.int 0]) (ea_cons (by walk_at "ev") (ea_cons (ev_is (by walk_at "ev") (by rfl)) ea_nil)) (Nat.le_of_ble_eq_true rfl) fun l hn => ?_
    walk_at "nf"
    refine zm_forT (j := 2) hn (by walk_at "ev") hq rfl (fun _ => [V.int 0, V.int 0]) rfl (fun i y hi N B hN => by simp at hi) fun w1 => ?_
    walk_at "nf"
    exact zm_retL (by walk_at "ev") k
end
/-! Text of integers; an integer of text. -/
section
variable {P : Program} {w : World} {K : PySem.W.Frag} {mg : Str → Option Value} {base : Heap} {σ : L2.St} {H : Hp} {ta tb te : TE}
theorem len_app (a b : Str) : (a ++ b).length = a.length + b.length := by
  rw [TL.len_tl, TL.tl_append, List.length_append, ← TL.len_tl, ← TL.len_tl]
theorem ev_slA {z : Str} (h : Ev te σ H (.str z)) (hz : z.length ≤ 100000) : Ev (tSl rSlS te tNoPart (tPart (tC (.int 1)))) σ H (.str (cutS z none (some 1))) := fun H1 e Q q => h H1 e _ fun H2 e2 => ⟨1, rfl, z, rfl, sz_of hz, q H2 e2⟩
theorem ev_slB {z : Str} (h : Ev te σ H (.str z)) (hz : z.length ≤ 100000) : Ev (tSl rSlS te (tPart (tC (.int 1))) tNoPart) σ H (.str (cutS z (some 1) none)) := fun H1 e Q q => h H1 e _ fun H2 e2 => ⟨1, rfl, z, rfl, sz_of hz, q H2 e2⟩
theorem ep_splitS {a b : Str} (ha : Ev ta σ H (.str a)) (hb : Ev tb σ H (.str b)) (hne : (b.length == 0) = false) (hl : a.length + 2 ≤ 100000) : EvP (tM1 rSplit ta tb) σ H (IsL ((Txt.split a b).map V.str)) := fun H1 e Q q =>
  ha H1 e _ fun H2 e2 => ⟨⟨a, rfl⟩, hb H2 (e.trans e2) _ fun H3 e3 => ⟨a, b, rfl, rfl, hne, sz_of hl, fun p hp => q _ _ ((e2.trans e3).trans (Ex.new hp)) ⟨p, rfl, upd_same⟩⟩⟩
theorem ev_joinS {a : Str} {ys : List Str} (ha : Ev ta σ H (.str a)) (hb : EvP tb σ H (IsL (ys.map V.str))) (hl : (ys.map (·.length)).sum + ys.length * a.length ≤ 16777216) : Ev (tM1 (rJoin K) ta tb) σ H (.str (Txt.join a ys)) := fun H1 e Q q =>
  ha H1 e _ fun H2 e2 => ⟨⟨a, rfl⟩, hb H2 (e.trans e2) _ fun v H3 e3 hv => by
    obtain ⟨p, rfl, hp⟩ := hv
    exact ⟨a, p, ys, rfl, rfl, .inl (sq_of hp), hl, q H3 (e2.trans e3)⟩⟩
def NOk (ns : List Int) : Prop := ns.length ≤ 3000 ∧ ∀ n ∈ ns, n.natAbs < 10 ^ 20
def sp_text_of (K : PySem.W.Frag) : Sp := fun vs H Q _ => ∃ (hd : Str) (l : Addr) (ns : List Int), vs = [.str hd, .ref l] ∧ SqL K H l (ns.map V.int) ∧ NOk ns ∧ hd.length ≤ 100 ∧ Ret (fun v _ => v = .str (textM hd ns)) H Q
theorem one_len : ("\n" : Str).length = 1 := by decide +kernel
theorem sp_len : (" " : Str).length = 1 := by decide +kernel
theorem small_log {n : Int} (h : n.natAbs < 10 ^ 20) : n.natAbs.log2 < 1920 := by
  by_cases h0 : n.natAbs = 0
  · rw [h0]; decide
  · exact (Nat.log2_lt h0).mpr (Nat.lt_trans h (by decide))
theorem ok_text_of (T : Tx K mg) : FnOk P w K mg base CX0 1 (He.fAd K d_text_of.at_) (fd_text_of T) ["head", "numbers"] (sp_text_of K) := by
  refine (F_text_of T).ok sc_text_of (fun vs H Q E h => ?_) (fun cdv A outer s H vs Q E hr h => ?_)
  · obtain ⟨hd, l, ns, rfl, _⟩ := h
    rfl
  · obtain ⟨hd, l, ns, rfl, hl, ⟨nl, nn⟩, hh, k⟩ := h
    have hr1 := row_len nn
    have hs1 := sum_len ns nn
    have l1 := one_len
    have l2 := sp_len
    have big : (100000 : Nat) ≤ sizeLine := by decide
    refine ⟨_, PSs.nox (pss_one (ps_ret (pe_op k_addS (pe_op k_addS (pe_op k_addS (pv 0) pe_str) (pe_joinK (K := K) pe_str (pe_lc (own := [("number", 2)]) (g := (gName 2)) (tt := tYes) rfl sc_text_of.nd (pi_listK (K := K) (pv 1)) (blkOk_by (own := [("number", 2)]) (N := ["head", "numbers", "number"]) (sc := defScope s_text_of) (by decide +kernel)) (fun _ _ _ _ _ => (pg_name (i := 2) sc_text_of.nd rfl (Or.inl rfl))) (fun _ _ _ _ _ => pts_nil) (fun _ _ _ _ _ => (pe_callTy k_str rfl (gf_str T) (by decide +kernel) (pa_cons (pv 2) pa_nil)))))) pe_str))), ?_⟩
    walk_at "n0"
    refine EvS.go ?_
    refine z_retV (v := .str (textM hd ns)) (ev_op (ev_op (ev_op (by walk_at "ev") (by walk_at "ev") (rv_addS (by omega))) (ev_joinS (ys := ns.map numS) (by walk_at "ev") ?_ ?_) (rv_addS ?_)) (by walk_at "ev") (rv_addS ?_)) fun H1 e => k _ H1 e rfl
    · refine EvP.weak (ep_lcLi (K := K) (fun n => .str (numS n)) (by walk_at "ev") hl (by omega) (fun _ => rfl) fun n hn => ?_) fun v H1 e h => ?_
      · walk_at "nf"
        exact ev_cb (by walk_at "ea") (rc_str (small_log (nn n hn)))
      · rw [List.map_map]
        exact h
    · rw [List.length_map, l2]
      omega
    · show (hd ++ "\n").length + (rowS ns).length ≤ _
      rw [len_app]
      omega
    · show (hd ++ "\n" ++ rowS ns).length + _ ≤ _
      rw [len_app, len_app]
      omega
def certS : Str := "armwarrant certificate"
def certM (M : MoverD) : Str := textM certS (matterN M ++ [0, 0])
/-- what is fit to be written -/
structure WrOk (M : MoverD) : Prop where
  sm : MSm M
  l1 : M.first.length ≤ 6
  l2 : M.last.length ≤ 6
  n : ∀ n ∈ matterN M, n.natAbs < 10 ^ 20
theorem matterN_ok {M : MoverD} (o : WrOk M) : NOk (matterN M ++ [0, 0]) := by
  have h1 := moverN_len o.sm o.l1 o.l2
  have h2 : (matterN M).length = (moverN M).length + 1 := rfl
  refine ⟨by simp only [List.length_append, List.length_cons, List.length_nil]; omega, fun n hn => ?_⟩
  rcases List.mem_append.mp hn with q | q
  · exact o.n n q
  · have : n = 0 := by simpa using q
    rw [this]
    decide
def sp_write_certificate (K : PySem.W.Frag) : Sp := fun vs H Q _ => ∃ (mv tv : V) (M : MoverD), vs = [mv, tv] ∧ MatterAt K M mv H ∧ TreeAt K tv H ∧ WrOk M ∧ Ret (fun v _ => v = .str (certM M)) H Q
theorem cert_len : certS.length ≤ 100 := by decide +kernel
theorem ok_write_certificate (T : Tx K mg) : FnOk P w K mg base CX0 5 (He.fAd K d_write_certificate.at_) (fd_write_certificate T) ["matter", "tree"] (sp_write_certificate K) := by
  refine (F_write_certificate T).ok sc_write_certificate (fun vs H Q E h => ?_) (fun cdv A outer s H vs Q E hr h => ?_)
  · obtain ⟨mv, tv, M, rfl, _⟩ := h
    rfl
  · obtain ⟨mv, tv, M, rfl, hM, hT, ok, k⟩ := h
    refine ⟨_, PSs.nox (pss_one (ps_ret (pe_call (ok_text_of T) (hr.mono (by decide)) rfl (g_text_of T) (F_text_of T).kp (b_text_of T) .nil pass0 (pa_cons (pe_globS rfl (gs_CERTIFICATE T)) (pa_cons (pe_lst (pa_starK (K := K) (pe_call (ok_matter_numbers T) (hr.mono (by decide)) rfl (g_matter_numbers T) (F_matter_numbers T).kp (b_matter_numbers T) .nil pass0 (pa_cons (pv 0) pa_nil)) (pa_starK (K := K) (pe_call (ok_tree_numbers T) (hr.mono (by decide)) rfl (g_tree_numbers T) (F_tree_numbers T).kp (b_tree_numbers T) .nil pass0 (pa_cons (pv 1) pa_nil)) pa_nil))) pa_nil))))), ?_⟩
    walk_at "n0"
    refine EvS.go ?_
    have no := matterN_ok ok
    refine z_ret (ep_callA (epa1 (x := .str certS) (by exact ev_c) (epaP (P := IsL ((matterN M ++ [0, 0]).map V.int)) (EvP.weak (ep_lstV (ea_starP (ep_call (P := IsL ((matterN M).map V.int)) (vs := [mv]) (by walk_at "ea") fun H1 e Q k E => ⟨mv, M, rfl, z_Matter T _ _ _ _ (Ex.z e) hM, ok.sm, ok.l1, ok.l2, k⟩)
      (ea_starP1 (ep_call (P := IsL ([0, 0].map V.int)) (vs := [tv]) (by walk_at "ea") fun H1 e Q k E => ⟨tv, rfl, z_Tree _ _ _ (Ex.z e) hT, k⟩))) ?_) fun v H1 e h => ?_) up_isL epa_nil)) fun vs H1 e hvs Q k E => ?_) k
    · rw [← List.map_append, List.length_map]
      have := no.1
      omega
    · rw [List.map_append]
      exact h
    · obtain ⟨_, rfl, v, _, rfl, ⟨p, rfl, hp⟩, rfl⟩ := hvs
      exact ⟨certS, p, _, rfl, sq_of hp, no, cert_len, k⟩
/-! number_of -/
def sp_number_of (K : PySem.W.Frag) : Sp := fun vs H Q _ => ∃ n : Int, vs = [.str (numS n)] ∧ n.natAbs < 10 ^ 20 ∧ Ret (fun v _ => v = .int n) H Q
theorem ev_bm0S {b : Bool} {f : Str → Bool} {z : Str} (h : Ev te σ H (.str z)) (hf : f z = b) : Ev (tBM0 K "str" (fun x xs H Q => ∃ a, x = .str a ∧ xs = [] ∧ True ∧ Q (.bl (f a)) H) te) σ H (.bl b) := fun H1 e Q q => h H1 e _ fun H2 e2 => ⟨rfl, z, rfl, rfl, trivial, by
  rw [hf]
  exact q H2 e2⟩
theorem ok_number_of (T : Tx K mg) : FnOk P w K mg base CX0 1 (He.fAd K d_number_of.at_) (fd_number_of T) ["word"] (sp_number_of K) := by
  refine (F_number_of T).ok sc_number_of (fun vs H Q E h => ?_) (fun cdv A outer s H vs Q E hr h => ?_)
  · obtain ⟨n, rfl, _⟩ := h
    rfl
  · obtain ⟨n, rfl, nn, k⟩ := h
    have hl := numS_len nn
    have hdl := dig_len nn
    have big : (100000 : Nat) ≤ sizeLine := by decide
    refine ⟨_, PSs.nox (pss_cons (ps_set (i := 1) sc_number_of.nd rfl (Or.inl rfl) (pe_ifExp (pt_cmpR op_eq (pe_slice sl_str (pv 0) po_none (po_some pe_int)) pe_str (nomark _)) (pe_slice sl_str (pv 0) (po_some pe_int) po_none) (pv 0)))
      (pss_cons (ps_if (PW.pt (pw_or (pt_cmpR op_gt (pe_callB k_lenZ rfl (gf_len T) PySem.boot_len (pa_cons (pv 1) pa_nil)) (pe_globI rfl (gi_LONGEST T)) (nomark _)) (pw_or1 (pt_not (PW.pt (pw_and (pt_val (pe_bm0K (K := K) PySem.F.plainAttrs_str PySem.F.slot_str_isascii PySem.F.type_str_isascii mt_isascii (pv 1))) (pw_and1 (pt_val (pe_bm0K (K := K) PySem.F.plainAttrs_str PySem.F.slot_str_isdigit PySem.F.type_str_isdigit mt_isdigit (pv 1)))))))))) (pss_one ps_never) pss_nil)
      (pss_cons (ps_set (i := 2) sc_number_of.nd rfl (Or.inl rfl) (pe_callTy k_intS rfl (gf_int T) (by decide +kernel) (pa_cons (pv 1) pa_nil)))
      (pss_cons (ps_if (pt_cmpR op_eq (pe_slice sl_str (pv 0) po_none (po_some pe_int)) pe_str (nomark _)) (pss_one (ps_set (i := 2) sc_number_of.nd rfl (Or.inl rfl) (pe_un un_neg (pv 2)))) pss_nil)
      (pss_cons (ps_if (pt_cmpR op_ne (pe_callTy k_str rfl (gf_str T) (by decide +kernel) (pa_cons (pv 2) pa_nil)) (pv 0) (nomark _)) (pss_one ps_never) pss_nil)
      (pss_one (ps_ret (pv 2)))))))), ?_⟩
    walk_at "n0"
    refine EvS.go ?_
    refine z_asg (v := .str (digS n)) (ev_is (ev_ifx (b := decide (n < 0)) (et_is (et_test (ev_op (ev_slA (by walk_at "ev") (by omega)) (by walk_at "ev") rv_eqS)) (cut_dec n)) (ev_slB (by walk_at "ev") (by omega)) (by walk_at "ev")) ?_) ?_
    · by_cases q : n < 0
      · rw [decide_eq_true q, if_pos rfl, cut_rest q]
      · rw [decide_eq_false q, if_neg (by decide), numS_pos (by omega)]
    walk_at "nf"
    have c1 : decide ((24 : Int) < ((digS n).length : Int)) = false := decide_eq_false (by omega)
    refine z_skip (et_is (et_or (et_test (ev_op (ev_cb (by walk_at "ea") (rc_lenZ (by omega))) (by walk_at "ev") rv_gt)) fun _ => et_not (et_and (et_B (ev_bm0S (b := true) (by walk_at "ev") (dig_isascii n))) fun _ => et_B (ev_bm0S (b := true) (by walk_at "ev") (dig_isdigit n)))) (by rw [c1] <;> rfl)) ?_
    refine z_asg (v := .int (n.natAbs : Int)) (ev_cb (by walk_at "ea") (rc_intS (dig_int nn) (by omega))) ?_
    walk_at "nf"
    have fin : ∀ {D : Ends} {H1 : Hp}, Ret (fun v _ => v = .int n) H1 D.rt → EvS (tSeq (tIfS (tTest (tOp rNe (tCB rStr1 (tCons (tVar 2) tNil)) (tVar 0))) (tNever) tNext) (tRet (tVar 2))) D [some (.str (numS n)), some (.str (digS n)), some (.int n)] H1 := fun {D} {H1} k => by
      refine z_skip (et_is (et_test (ev_op (ev_cb (by walk_at "ea") (rc_str (small_log nn))) (by walk_at "ev") rv_neS)) ?_) ?_
      · show (!decide (numS n = numS n)) = false
        rw [decide_eq_true rfl] <;> rfl
      · exact z_retV (by walk_at "ev") fun H2 e => k _ H2 e rfl
    refine z_iff (b := decide (n < 0)) (et_is (et_test (ev_op (ev_slA (by walk_at "ev") (by omega)) (by walk_at "ev") rv_eqS)) (cut_dec n)) (fun hb => ?_) (fun hb => ?_)
    · refine z_asgl (v := .int n) (ev_is (ev_un (ev_var rfl) ru_neg) ?_) fun H1 e => ?_
      · have := of_decide_eq_true hb
        exact congrArg V.int (by omega)
      · walk_at "nf"
        exact EvS.go (fin (k.mono e))
    · intro H1 e
      have e1 : (n.natAbs : Int) = n := by
        have := of_decide_eq_false hb
        omega
      rw [e1]
      exact EvS.go (fin (k.mono e))
end
/-! The reader of integers. -/
section
variable {K : PySem.W.Frag} {σ : L2.St} {H H' : Hp} {ta tb te to : TE} {y z v : V} {vs : List V} {D : Ends} {tu tw tz : TS} {x C dx : Addr} {fs : List (Str × V)} {f : Str}
theorem isL_drop {p : Addr} {vs : List V} {H2 : Hp} (hx : H2 x = some (.ins C dx fs)) (hp : H2 p = some (.lst vs)) : dropX H2 x p = some (.lst vs) := by
  rw [dropX_ne (ne_of hp hx (by intro z; cases z))]
  exact hp
theorem zi_asgL {i : Nat} (hn : H x = none) (h : EvP te σ H (IsL vs)) (k : ∀ p H0, Ex H H0 → H0 x = none → H0 p = some (.lst vs) → EvI x C dx fs tz D (σ.set i (some (.ref p))) H0) : EvI x C dx fs (tSeq (tAsg te (gName i)) tz) D σ H := fun H1 e hx =>
  h H1 e _ fun v H2 e2 hv => by
    obtain ⟨p, rfl, hp⟩ := hv
    have hx2 := e2 x _ hx
    exact k p (dropX H2 x) (Ex.drop (e.trans e2) hn) dropX_same (isL_drop hx2 hp) H2 ex_drop hx2
theorem zi_fldL (c : Cls K C) (n : NoAttr K C f) (hn : H x = none) (ho : Ev to σ H (.ref x)) (h : EvP te σ H (IsL vs)) (hf : (fs.all fun q => decide (q.1 ≠ f)) = true) (hl : fs.length < 1000)
    (k : ∀ p H0, Ex H H0 → H0 x = none → H0 p = some (.lst vs) → EvI x C dx (fs ++ [(f, .ref p)]) tz D σ H0) : EvI x C dx fs (tSeq (sFld K to te f) tz) D σ H := fun H1 e hx =>
  h H1 e _ fun v H2 e2 hv => by
    obtain ⟨p, rfl, hp⟩ := hv
    exact ho H2 (e.trans e2) _ fun H3 e3 => ⟨x, C, dx, fs, rfl, (e2.trans e3) x _ hx, c, n, hl, by
      rw [putF_snoc hf]
      exact k p (dropX H3 x) (Ex.drop ((e.trans e2).trans e3) hn) dropX_same (isL_drop ((e2.trans e3) x _ hx) (e3 _ _ hp)) _ (Ex.mut ex_drop dropX_same) upd_same⟩
theorem z_bump {N : NumD} {i j : Nat} (c : Cls K (He.ga K "Numbers")) (n : NoAttr K (He.ga K "Numbers") "taken") (hN : NAt K N i H) (ho : Ev to σ H (.ref N.p)) (h : Ev te σ H (.int (j : Int))) (k : ∀ H1, ExN N.p H H1 → NAt K N j H1 → EvS tz D σ H1) : EvS (tSeq (sFld K to te "taken") tz) D σ H := fun H1 e =>
  h H1 e _ fun H2 e2 => ho H2 (e.trans e2) _ fun H3 e3 => ⟨N.p, He.ga K "Numbers", N.dx, fNum N i, rfl, (hN.ex ((e.trans e2).trans e3)).1, c, n, Nat.le_of_ble_eq_true rfl, by
    have n3 := hN.ex ((e.trans e2).trans e3)
    have eq : putF "taken" (.int (j : Int)) (fNum N i) = fNum N j := rfl
    rw [eq]
    refine k _ (fun a o na ha => ?_) ⟨upd_same, ?_⟩ _ (Ex.refl _)
    · rw [upd_ne na]
      exact ((e.trans e2).trans e3) a o ha
    · rw [upd_ne (ne_of n3.2 n3.1 (by intro z; cases z))]
      exact n3.2⟩
theorem int_at {R : List Int} {i : Nat} {n : Int} (h : R[i]? = some n) : atI (R.map V.int) (i : Int) = some (.int n) := by
  obtain ⟨h1, h2⟩ := List.getElem?_eq_some_iff.mp h
  have := ints_at h1
  rw [List.getD_eq_getElem?_getD, h] at this
  exact this
end
section
variable {P : Program} {w : World} {K : PySem.W.Frag} {mg : Str → Option Value} {base : Heap}
def sp_Numbers_init (K : PySem.W.Frag) : Sp := fun vs H Q _ => ∃ (hd : Str) (ns : List Int) (x dx : Addr) (H0 : Hp), vs = [.ref x, .str hd, .str (textM hd ns)] ∧ Ex H0 H ∧ H0 x = none ∧ H x = some (.ins (He.ga K "Numbers") dx []) ∧
  NOk ns ∧ ns ≠ [] ∧ 10 ∉ TL.tl hd ∧ hd.length ≤ 100 ∧ ∀ (rl : Addr) H2, Ex H0 H2 → NAt K ⟨x, dx, rl, ns⟩ 0 H2 → Q .non H2
theorem ok_Numbers_init (T : Tx K mg) : FnOk P w K mg base CX0 2 (He.fAd K d_Numbers_init.at_) (fd_Numbers_init T) ["self", "head", "text"] (sp_Numbers_init K) := by
  refine (F_Numbers_init T).ok sc_Numbers_init (fun vs H Q E h => ?_) (fun cdv A outer s H vs Q E hr h => ?_)
  · obtain ⟨hd, ns, x, dx, H0, rfl, _⟩ := h
    rfl
  · obtain ⟨hd, ns, x, dx, H0, rfl, e0, hn, hx, ⟨nl, nn⟩, ne, hh, hl, k⟩ := h
    have hr1 := row_len nn
    have l1 := one_len
    have ht : (textM hd ns).length ≤ 90000 := by
      unfold textM
      rw [len_app, len_app, len_app]
      omega
    refine ⟨_, PSs.nox (pss_cons (ps_set (i := 3) sc_Numbers_init.nd rfl (Or.inl rfl) (pe_splitK (pv 2) pe_str))
      (pss_cons (ps_if (PW.pt (pw_or (pt_cmpR op_ne (pe_callB (k_lenK (K := K)) rfl (gf_len T) PySem.boot_len (pa_cons (pv 3) pa_nil)) pe_int (nomark _)) (pw_or (pt_cmpR op_ne (pe_ix (ix_listK (K := K)) (pv 3) pe_int (fun _ _ => rfl)) (pv 1) (nomark _)) (pw_or1 (pt_cmpR op_ne (pe_ix (ix_listK (K := K)) (pv 3) pe_int (fun _ _ => rfl)) pe_str (nomark _)))))) (pss_one ps_never) pss_nil)
      (pss_cons (ps_fldK (K := K) (pv 0) (pe_lc (own := [("word", 4)]) (g := (gName 4)) (tt := tYes) rfl sc_Numbers_init.nd (pi_listK (K := K) (pe_splitK (pe_ix (ix_listK (K := K)) (pv 3) pe_int (fun _ _ => rfl)) pe_str)) (blkOk_by (own := [("word", 4)]) (N := ["self", "head", "text", "lines", "word"]) (sc := defScope s_Numbers_init) (by decide +kernel)) (fun _ _ _ _ _ => (pg_name (i := 4) sc_Numbers_init.nd rfl (Or.inl rfl))) (fun _ _ _ _ _ => pts_nil) (fun _ _ _ _ _ => (pe_call (ok_number_of T) (hr.mono (by decide)) rfl (g_number_of T) (F_number_of T).kp (b_number_of T) .nil pass0 (pa_cons (pv 4) pa_nil)))) rfl)
      (pss_one (ps_fldK (K := K) (pv 0) pe_int rfl))))), ?_⟩
    walk_at "n0"
    refine EvI.go ?_ e0 hx
    refine zi_asgL (vs := [V.str hd, V.str (rowS ns), V.str ""]) hn (EvP.weak (ep_splitS (by walk_at "ev") (by walk_at "ev") (by decide +kernel) (by omega)) fun v H1 e h => ?_) fun p H1 e1 hn1 hp => ?_
    · rw [text_split hd hh] at h
      exact h
    walk_at "nf"
    have hpl : SqL K H1 p [V.str hd, V.str (rowS ns), V.str ""] := sq_of hp
    refine zi_skip (et_is (et_or (et_test (by walk_at "ev")) fun _ => et_or (et_test (ev_op (ev_op (by walk_at "ev") (by walk_at "ev") (rv_ixL hpl rfl)) (by walk_at "ev") rv_neS)) fun _ => et_test (ev_op (ev_op (by walk_at "ev") (by walk_at "ev") (rv_ixL hpl rfl)) (by walk_at "ev") rv_neS)) ?_) ?_
    · show (!decide (((3 : Nat) : Int) = 3) || (!decide (hd = hd) || !decide (("" : Str) = ""))) = false
      rw [decide_eq_true rfl, decide_eq_true rfl] <;> rfl
    refine zi_fldL (vs := ns.map V.int) (c_Numbers T) (n_Numbers_row T) hn1 (by walk_at "ev") (EvP.weak (ep_lcG (K := K) (n := ns.length) (B := fun xs _ => xs = (ns.map numS).map V.str) (Pi := fun i v _ => v = V.int (ns.getD i 0)) (EvP.weak (ep_splitS (a := rowS ns) (ev_op (by walk_at "ev") (by walk_at "ev") (rv_ixL hpl rfl)) (by walk_at "ev") (by decide +kernel) (by omega)) fun v H2 e h => ?_) (fun _ _ _ _ h => h) (by omega) (fun _ => upz_val) fun xs H2 e hxl hb i x R hi hR => ?_) fun v H2 e h => ?_) rfl (Nat.le_of_ble_eq_true rfl) fun q H2 e2 hn2 hq => ?_
    · rw [row_split ne] at h
      obtain ⟨a, rfl, ha⟩ := h
      exact ⟨a, _, rfl, ha, by rw [List.length_map, List.length_map], rfl⟩
    · subst hb
      have hil : i < ns.length := by
        have := (List.getElem?_eq_some_iff.mp hi).1
        rw [List.length_map, List.length_map] at this
        exact this
      have hx : x = .str (numS (ns.getD i 0)) := by
        rw [List.getElem?_map, List.getElem?_map, List.getElem?_eq_getElem hil] at hi
        rw [List.getD_eq_getElem?_getD, List.getElem?_eq_getElem hil]
        exact (Option.some.inj hi).symm
      subst hx
      refine hR _ (by rfl) ?_
      walk_at "nf"
      refine ep_call (vs := [.str (numS (ns.getD i 0))]) (by walk_at "ea") fun H3 e3 Q k E => ⟨_, rfl, ?_, k⟩
      refine nn _ ?_
      rw [List.getD_eq_getElem?_getD, List.getElem?_eq_getElem hil]
      exact List.getElem_mem hil
    · have h2 := h.vals
      have er := range_map_get (ns := ns) (f := V.int)
      rw [List.length_map] at er
      rw [er] at h2
      exact h2
    refine zi_fldl (c_Numbers T) (n_Numbers_taken T) hn2 (by walk_at "ev") (by walk_at "ev") rfl (Nat.le_of_ble_eq_true rfl) fun H3 e3 hx3 => ?_
    exact k q H3 ((e1.trans e2).trans e3) ⟨hx3, e3 _ _ hq⟩
def sp_Numbers_take (K : PySem.W.Frag) : Sp := fun vs H Q _ => ∃ (N : NumD) (i : Nat) (n : Int), vs = [.ref N.p] ∧ NAt K N i H ∧ N.R[i]? = some n ∧ RetN K N (i + 1) (fun v _ => v = .int n) H Q
theorem ok_Numbers_take (T : Tx K mg) : FnOk P w K mg base CX0 1 (He.fAd K d_Numbers_take.at_) (fd_Numbers_take T) ["self"] (sp_Numbers_take K) := by
  refine (F_Numbers_take T).ok sc_Numbers_take (fun vs H Q E h => ?_) (fun cdv A outer s H vs Q E hr h => ?_)
  · obtain ⟨N, i, n, rfl, _⟩ := h
    rfl
  · obtain ⟨N, i, n, rfl, hN, hR, k⟩ := h
    have hi : i < N.R.length := (List.getElem?_eq_some_iff.mp hR).1
    refine ⟨_, PSs.nox (pss_cons (ps_if (pt_cmpR op_eq (pe_fldK (K := K) (pv 0) rfl) (pe_callB (k_lenK (K := K)) rfl (gf_len T) PySem.boot_len (pa_cons (pe_fldK (K := K) (pv 0) rfl) pa_nil)) (nomark _)) (pss_one ps_never) pss_nil)
      (pss_cons (ps_fldK (K := K) (pv 0) (pe_op op_add (pe_fldK (K := K) (pv 0) rfl) pe_int) rfl)
      (pss_one (ps_ret (pe_ix (ix_listK (K := K)) (pe_fldK (K := K) (pv 0) rfl) (pe_op op_sub (pe_fldK (K := K) (pv 0) rfl) pe_int) (fun _ _ => rfl)))))), ?_⟩
    walk_at "n0"
    refine EvS.go ?_
    have hl : SqL K H N.rl (N.R.map V.int) := sq_of hN.2
    refine z_skip (et_is (et_test (ev_op (ev_taken (c_Numbers T) (n_Numbers_taken T) (by walk_at "ev") hN) (ev_cb (ea_cons (ev_row (c_Numbers T) (n_Numbers_row T) (by walk_at "ev") hN) ea_nil) (rc_lenL hl)) rv_eqI)) (decide_eq_false ?_)) ?_
    · rw [List.length_map]
      omega
    refine z_bump (j := i + 1) (c_Numbers T) (n_Numbers_taken T) hN (by walk_at "ev") (ev_is (ev_op (ev_taken (c_Numbers T) (n_Numbers_taken T) (by walk_at "ev") hN) (by walk_at "ev") rv_add) ?_) fun H1 e1 n1 => ?_
    · exact congrArg V.int (by omega)
    have hl1 : SqL K H1 N.rl (N.R.map V.int) := sq_of n1.2
    refine z_retV (v := .int n) (ev_op (ev_row (c_Numbers T) (n_Numbers_row T) (by walk_at "ev") n1) (ev_is (w := .int (i : Int)) (ev_op (ev_taken (c_Numbers T) (n_Numbers_taken T) (by walk_at "ev") n1) (by walk_at "ev") rv_sub) ?_) (rv_ixL hl1 (int_at hR))) fun H2 e2 => k _ H2 (e1.trans (Ex.n e2)) (n1.ex e2) rfl
    exact congrArg V.int (by omega)
theorem en_take (T : Tx K mg) {N : NumD} {i : Nat} {n : Int} {σ : L2.St} {H : Hp} {to : TE} {E : XK} (hN : NAt K N i H) (ho : Ev to σ H (.ref N.p)) (hR : N.R[i]? = some n) :
    EvN K N (i + 1) (tMeth (He.ga K "Numbers") "take" (sp_Numbers_take K) [] E to tNil) σ H (fun v _ => v = .int n) := en_meth hN ho rfl ea_nil fun H1 _ n1 Q k E => ⟨N, i, n, rfl, n1, hR, k⟩
def sp_Numbers_take_within (K : PySem.W.Frag) : Sp := fun vs H Q _ => ∃ (N : NumD) (i : Nat) (n lo hi : Int), vs = [.ref N.p, .int lo, .int hi] ∧ NAt K N i H ∧ N.R[i]? = some n ∧ lo ≤ n ∧ n ≤ hi ∧ RetN K N (i + 1) (fun v _ => v = .int n) H Q
theorem ok_Numbers_take_within (T : Tx K mg) : FnOk P w K mg base CX0 2 (He.fAd K d_Numbers_take_within.at_) (fd_Numbers_take_within T) ["self", "low", "high"] (sp_Numbers_take_within K) := by
  refine (F_Numbers_take_within T).ok sc_Numbers_take_within (fun vs H Q E h => ?_) (fun cdv A outer s H vs Q E hr h => ?_)
  · obtain ⟨N, i, n, lo, hi, rfl, _⟩ := h
    rfl
  · obtain ⟨N, i, n, lo, hi, rfl, hN, hR, h1, h2, k⟩ := h
    refine ⟨_, PSs.nox (pss_cons (ps_set (i := 3) sc_Numbers_take_within.nd rfl (Or.inl rfl) (pe_meth0 (pv 0) (c_Numbers T) (m_Numbers_take T) (ok_Numbers_take T) (hr.mono (by decide)) (b_Numbers_take T) .nil pass0))
      (pss_cons (ps_if (pt_not (pt_chain op_le op_le (pv 1) (pv 3) (pv 2))) (pss_one ps_never) pss_nil)
      (pss_one (ps_ret (pv 3))))), ?_⟩
    walk_at "n0"
    refine EvS.go ?_
    refine en_asgV (en_take T hN (by walk_at "ev") hR) fun H1 e1 n1 => ?_
    walk_at "nf"
    refine z_skip (et_is (by walk_at "et") (by rw [decide_eq_true h1, decide_eq_true h2] <;> rfl)) ?_
    exact z_retV (by walk_at "ev") fun H2 e2 => k _ H2 (e1.trans (Ex.n e2)) (n1.ex e2) rfl
theorem en_within (T : Tx K mg) {N : NumD} {i : Nat} {n lo hi : Int} {σ : L2.St} {H : Hp} {to ta tb : TE} {E : XK} (hN : NAt K N i H) (ho : Ev to σ H (.ref N.p)) (ha : Ev ta σ H (.int lo)) (hb : Ev tb σ H (.int hi)) (hR : N.R[i]? = some n) (h1 : lo ≤ n) (h2 : n ≤ hi) :
    EvN K N (i + 1) (tMeth (He.ga K "Numbers") "take_within" (sp_Numbers_take_within K) [] E to (tCons ta (tCons tb tNil))) σ H (fun v _ => v = .int n) := en_meth hN ho rfl (ea_cons ha (ea_cons hb ea_nil)) fun H1 _ n1 Q k E => ⟨N, i, n, lo, hi, rfl, n1, hR, h1, h2, k⟩
def sp_Numbers_take_size (K : PySem.W.Frag) : Sp := fun vs H Q _ => ∃ (N : NumD) (i : Nat) (n : Int), vs = [.ref N.p] ∧ NAt K N i H ∧ N.R[i]? = some n ∧ 0 ≤ n ∧ n ≤ ((N.R.length - i : Nat) : Int) ∧ RetN K N (i + 1) (fun v _ => v = .int n) H Q
theorem ok_Numbers_take_size (T : Tx K mg) : FnOk P w K mg base CX0 3 (He.fAd K d_Numbers_take_size.at_) (fd_Numbers_take_size T) ["self"] (sp_Numbers_take_size K) := by
  refine (F_Numbers_take_size T).ok sc_Numbers_take_size (fun vs H Q E h => ?_) (fun cdv A outer s H vs Q E hr h => ?_)
  · obtain ⟨N, i, n, rfl, _⟩ := h
    rfl
  · obtain ⟨N, i, n, rfl, hN, hR, h1, h2, k⟩ := h
    have hi : i < N.R.length := (List.getElem?_eq_some_iff.mp hR).1
    refine ⟨_, PSs.nox (pss_one (ps_ret (pe_meth (pv 0) (c_Numbers T) (m_Numbers_take_within T) (ok_Numbers_take_within T) (hr.mono (by decide)) (b_Numbers_take_within T) .nil pass0 (pa_cons pe_int (pa_cons (pe_op op_sub (pe_callB (k_lenK (K := K)) rfl (gf_len T) PySem.boot_len (pa_cons (pe_fldK (K := K) (pv 0) rfl) pa_nil)) (pe_fldK (K := K) (pv 0) rfl)) pa_nil))))), ?_⟩
    walk_at "n0"
    refine EvS.go ?_
    have hl : SqL K H N.rl (N.R.map V.int) := sq_of hN.2
    refine en_ret (en_within T (hi := ((N.R.length - i : Nat) : Int)) hN (by walk_at "ev") (by walk_at "ev") (ev_is (ev_op (ev_cb (ea_cons (ev_row (c_Numbers T) (n_Numbers_row T) (by walk_at "ev") hN) ea_nil) (rc_lenL hl)) (ev_taken (c_Numbers T) (n_Numbers_taken T) (by walk_at "ev") hN) rv_sub) ?_) hR h1 h2) k
    rw [List.length_map]
    exact congrArg V.int (by omega)
theorem en_size (T : Tx K mg) {N : NumD} {i : Nat} {n : Int} {σ : L2.St} {H : Hp} {to : TE} {E : XK} (hN : NAt K N i H) (ho : Ev to σ H (.ref N.p)) (hR : N.R[i]? = some n) (h1 : 0 ≤ n) (h2 : n ≤ ((N.R.length - i : Nat) : Int)) :
    EvN K N (i + 1) (tMeth (He.ga K "Numbers") "take_size" (sp_Numbers_take_size K) [] E to tNil) σ H (fun v _ => v = .int n) := en_meth hN ho rfl ea_nil fun H1 _ n1 Q k E => ⟨N, i, n, rfl, n1, hR, h1, h2, k⟩
def sp_Numbers_take_vector (K : PySem.W.Frag) : Sp := fun vs H Q _ => ∃ (N : NumD) (i : Nat) (u : I3), vs = [.ref N.p] ∧ NAt K N i H ∧ AtR N.R i [u.x, u.y, u.z] ∧ RetN K N (i + 3) (IsT u.vs) H Q
theorem ok_Numbers_take_vector (T : Tx K mg) : FnOk P w K mg base CX0 2 (He.fAd K d_Numbers_take_vector.at_) (fd_Numbers_take_vector T) ["self"] (sp_Numbers_take_vector K) := by
  refine (F_Numbers_take_vector T).ok sc_Numbers_take_vector (fun vs H Q E h => ?_) (fun cdv A outer s H vs Q E hr h => ?_)
  · obtain ⟨N, i, u, rfl, _⟩ := h
    rfl
  · obtain ⟨N, i, u, rfl, hN, hR, k⟩ := h
    refine ⟨_, PSs.nox (pss_one (ps_ret (pe_tup (pa_cons (pe_meth0 (pv 0) (c_Numbers T) (m_Numbers_take T) (ok_Numbers_take T) (hr.mono (by decide)) (b_Numbers_take T) .nil pass0) (pa_cons (pe_meth0 (pv 0) (c_Numbers T) (m_Numbers_take T) (ok_Numbers_take T) (hr.mono (by decide)) (b_Numbers_take T) .nil pass0) (pa_cons (pe_meth0 (pv 0) (c_Numbers T) (m_Numbers_take T) (ok_Numbers_take T) (hr.mono (by decide)) (b_Numbers_take T) .nil pass0) pa_nil)))))), ?_⟩
    walk_at "n0"
    refine EvS.go ?_
    refine en_ret (P := IsT u.vs) (en_tup (vs := u.vs) (fun H1 e1 Q q => ?_) (Nat.le_of_ble_eq_true rfl)) k
    refine ean_v (en_take T hN (by walk_at "ev") hR.hd) (fun H2 e2 n2 => ean_v (en_take T n2 (by walk_at "ev") hR.tl.hd) fun H3 e3 n3 => ean_v (en_take T n3 (by walk_at "ev") hR.tl.tl.hd) fun H4 e4 n4 => ean_nil n4) H1 e1 Q fun us H2 e2 n2 a => ?_
    obtain ⟨_, rfl, _, rfl, _, rfl, rfl⟩ := a
    exact q _ H2 e2 n2 rfl
theorem en_vector (T : Tx K mg) {N : NumD} {i : Nat} {u : I3} {σ : L2.St} {H : Hp} {to : TE} {E : XK} (hN : NAt K N i H) (ho : Ev to σ H (.ref N.p)) (hR : AtR N.R i [u.x, u.y, u.z]) :
    EvN K N (i + 3) (tMeth (He.ga K "Numbers") "take_vector" (sp_Numbers_take_vector K) [] E to tNil) σ H (IsT u.vs) := en_meth hN ho rfl ea_nil fun H1 _ n1 Q k E => ⟨N, i, u, rfl, n1, hR, k⟩
def sp_Numbers_finish (K : PySem.W.Frag) : Sp := fun vs H Q _ => ∃ (N : NumD), vs = [.ref N.p] ∧ NAt K N N.R.length H ∧ Ret (fun v _ => v = .non) H Q
theorem ok_Numbers_finish (T : Tx K mg) : FnOk P w K mg base CX0 1 (He.fAd K d_Numbers_finish.at_) (fd_Numbers_finish T) ["self"] (sp_Numbers_finish K) := by
  refine (F_Numbers_finish T).ok sc_Numbers_finish (fun vs H Q E h => ?_) (fun cdv A outer s H vs Q E hr h => ?_)
  · obtain ⟨N, rfl, _⟩ := h
    rfl
  · obtain ⟨N, rfl, hN, k⟩ := h
    refine ⟨_, PSs.nox (pss_one (ps_if (pt_cmpR op_lt (pe_fldK (K := K) (pv 0) rfl) (pe_callB (k_lenK (K := K)) rfl (gf_len T) PySem.boot_len (pa_cons (pe_fldK (K := K) (pv 0) rfl) pa_nil)) (nomark _)) (pss_one ps_never) pss_nil)), ?_⟩
    walk_at "n0"
    refine EvS.go ?_
    have hl : SqL K H N.rl (N.R.map V.int) := sq_of hN.2
    refine z_if1 (b := false) (et_is (et_test (ev_op (ev_taken (c_Numbers T) (n_Numbers_taken T) (by walk_at "ev") hN) (ev_cb (ea_cons (ev_row (c_Numbers T) (n_Numbers_row T) (by walk_at "ev") hN) ea_nil) (rc_lenL hl)) rv_lt)) (decide_eq_false ?_)) (fun z => by cases z) (fun _ => ?_)
    · rw [List.length_map]
      omega
    · intro H1 e1
      exact k _ H1 e1 rfl
end
/-! What calls with keywords and defaults bind. -/
section
variable {K : PySem.W.Frag} {mg : Str → Option Value}
theorem vals_non : Vals [V.non] [Value.none] := .cons rfl .nil
theorem kb_Joint_init_5 (T : Tx K mg) : ∃ mv : List Value, KBn K (fd_Joint_init T) ["self", "turns", "axis", "offset", "least", "most", "box", "error", "speed", "accel", "brake"] 6 ["box", "error", "speed", "accel", "brake"] (fun us ws => us ++ ws) (fun vs zs => vs ++ zs) :=
  FunD.kbinds0 (kws := [("box", .int 0), ("error", .int 0), ("speed", .int 1), ("accel", .int 1), ("brake", .int 1)]) (F_Joint_init T) 6 _ [] (fun us _ ws => us ++ ws) (by simp) (fun q h => by cases h) (fun r1 _ r3 => r1.append r3)
    (fun D doc pm an cdv ct us mv ws l1 l2 l3 => match us, mv, ws, l1, l2, l3 with | [_, _, _, _, _, _], [], [_, _, _, _, _], _, _, _ => rfl)
theorem kb_Joint_init_2 (T : Tx K mg) : ∃ mv : List Value, KBn K (fd_Joint_init T) ["self", "turns", "axis", "offset", "least", "most", "box", "error", "speed", "accel", "brake"] 6 ["box", "error"] (fun us ws => us ++ (ws ++ mv)) (fun vs zs => vs ++ (zs ++ [V.int 1, V.int 1, V.int 1])) :=
  FunD.kbinds0 (kws := [("box", .int 0), ("error", .int 0), ("speed", .int 1), ("accel", .int 1), ("brake", .int 1)]) (F_Joint_init T) 6 _ [("speed", .int 1), ("accel", .int 1), ("brake", .int 1)] (fun us mv ws => us ++ (ws ++ mv)) (by simp) (fun q h => by
      simp only [List.mem_cons, List.not_mem_nil, or_false] at h ⊢
      rcases h with rfl | rfl | rfl <;> simp) (fun r1 r2 r3 => r1.append (r3.append r2))
    (fun D doc pm an cdv ct us mv ws l1 l2 l3 => match us, mv, ws, l1, l2, l3 with | [_, _, _, _, _, _], [_, _, _], [_, _], _, _, _ => ⟨_, _, _, _, _, _, rfl, rfl, _, _, _, _, _, _, rfl, rfl, _, _, _, _, _, _, rfl, rfl, rfl⟩)
theorem kb_Arm_init_1 (T : Tx K mg) : ∃ mv : List Value, KBn K (fd_Arm_init T) ["self", "joints", "capsules", "beside"] 3 ["beside"] (fun us ws => us ++ ws) (fun vs zs => vs ++ zs) := by
  obtain ⟨oc, od, dV, kV, doc, pm, an, cdv, ct, osl, e, lk, hcd, hD, hK⟩ := (F_Arm_init T).ex
  rcases hD with ⟨_, rfl⟩ | ⟨e, _⟩
  · refine ⟨[], ⟨fun s us ws X l1 l2 => ?_, fun r1 r2 => r1.append r2⟩⟩
    rw [e]
    exact BindsTo.of_eq (match us, ws, l1, l2 with | [_, _, _], [_], _, _ => rfl)
  · exact absurd rfl e
theorem b_Mover_init (T : Tx K mg) : Binds K (fd_Mover_init T) ["self", "arm", "move", "held"] [] := by
  obtain ⟨ds, r, b⟩ := FunD.binds1 (ps := ["self", "arm", "move", "held"]) (dvs := [V.ref (He.dflAt ("Mover", some "__init__") 0 K)]) (F_Mover_init T) 4 1 (by simp) rfl (fun D kV doc pm an cdv ct us its l1 l2 => match us, its, l1, l2 with | [_, _, _, _], [_], _, _ => ⟨_, rfl, rfl⟩)
  cases r
  exact b
theorem b_Matter_init (T : Tx K mg) : Binds K (fd_Matter_init T) ["self", "kind", "mover", "other"] [] := by
  obtain ⟨ds, r, b⟩ := FunD.binds1 (ps := ["self", "kind", "mover", "other"]) (dvs := [V.non]) (F_Matter_init T) 4 1 (by simp) rfl (fun D kV doc pm an cdv ct us its l1 l2 => match us, its, l1, l2 with | [_, _, _, _], [_], _, _ => ⟨_, rfl, rfl⟩)
  cases r
  exact b
theorem bd_Matter_init (T : Tx K mg) : Binds K (fd_Matter_init T) ["self", "kind", "mover", "other"] [.none] := by
  obtain ⟨ds, r, b⟩ := FunD.binds1 (ps := ["self", "kind", "mover", "other"]) (dvs := [V.non]) (F_Matter_init T) 3 0 (by simp) rfl (fun D kV doc pm an cdv ct us its l1 l2 => match us, its, l1, l2 with | [_, _, _], [_], _, _ => ⟨_, rfl, rfl⟩)
  cases r with
  | cons r1 r2 =>
    cases r2
    have : _ = Value.none := r1
    subst this
    exact b
end
/-! Bodies, joints, arms, movers from integers. -/
section
variable {K : PySem.W.Frag} {N : NumD} {i j k : Nat} {σ : L2.St} {H H' H2 : Hp} {ta tb te to : TE} {x y v z : V} {P P' : VP} {A : AP} {tr tk : TA} {vs zs : List V} {D : Ends} {tu tw tz : TS}
theorem en_opA {r : R2} (h : EvN K N j ta σ H (fun u _ => u = x)) (hb : ∀ H1, ExN N.p H H1 → NAt K N j H1 → Ev tb σ H1 y) (hr : ∀ H1, RV r x y H1 z) : EvN K N j (tOp r ta tb) σ H (fun u _ => u = z) := fun H1 e Q q =>
  h H1 e _ fun u H2 e2 n2 p => by
    subst p
    exact hb H2 ((Ex.n e).trans e2) n2 H2 (Ex.refl H2) _ fun H3 e3 => hr H3 H3 (Ex.refl H3) _ fun H4 e4 => q _ H4 (e2.trans (Ex.n (e3.trans e4))) (n2.ex (e3.trans e4)) rfl
theorem en_opB {r : R2} (ha : Ev ta σ H x) (h : EvN K N j tb σ H (fun u _ => u = y)) (hr : ∀ H1, RV r x y H1 z) : EvN K N j (tOp r ta tb) σ H (fun u _ => u = z) := fun H1 e Q q =>
  ha H1 e _ fun H2 e2 => h H2 (e.trans e2) _ fun u H3 e3 n3 p => by
    subst p
    exact hr H3 H3 (Ex.refl H3) _ fun H4 e4 => q _ H4 (((Ex.n e2).trans e3).trans (Ex.n e4)) (n3.ex e4) rfl
theorem ep_makeK {sp : Sp} {E : XK} {C : Addr} {n m : Nat} {gV : List V → List V → List V} (h1 : EvA tr σ H vs) (h2 : EvA tk σ H zs) (l1 : vs.length = n) (l2 : zs.length = m)
    (hs : ∀ H1, Ex H H1 → ∀ x dx, H1 x = none → H1 dx = none → dx ≠ x → ∀ Q : VK, (∀ H2, Ex H1 H2 → P (.ref x) H2 → Q .non H2) → ∀ E, sp (gV (.ref x :: vs) zs) (upd (upd H1 dx (.own x)) x (.ins C dx [])) Q E) :
    EvP (tMakeK C n m sp gV E tr tk) σ H P := fun H1 e Q q =>
  h1 H1 e _ fun H2 e2 => h2 H2 (e.trans e2) _ fun H3 e3 => ⟨l1, l2, fun x dx nx nd ne => hs H3 ((e.trans e2).trans e3) x dx nx nd ne _ (fun H4 e4 p => ⟨rfl, q _ H4 ((e2.trans e3).trans e4) p⟩) E⟩
theorem AtR.get {R : List Int} {i : Nat} : ∀ {l : List Int}, AtR R i l → ∀ k, k < l.length → R[i + k]? = some (l.getD k 0)
  | [], _, k, hk => by cases hk
  | a :: l, h, 0, _ => h.hd
  | a :: l, h, k + 1, hk => by
    have := AtR.get h.tl k (Nat.lt_of_succ_lt_succ hk)
    rw [show i + (k + 1) = i + 1 + k by omega]
    exact this
theorem cast_toNat (n : Nat) : ((n : Int)).toNat = n := rfl
theorem isL_of {l : List Int} {ys : List V} (h : LsP l.length (fun k v _ => v = V.int (l.getD k 0)) v H) : IsL (l.map V.int) v H := by
  have h2 := h.vals
  have er := range_map_get (ns := l) (f := V.int)
  rw [List.length_map] at er
  rw [er] at h2
  exact h2
theorem LsP.rl {n : Nat} {Pi : Nat → VP} (h : LsP n Pi v H) : ∃ p, v = .ref p ∧ RLp K n Pi p H := let ⟨p, ys, a, b, c, d⟩ := h; ⟨p, a, ys, sq_of b, c, d⟩
end
section
variable {P : Program} {w : World} {K : PySem.W.Frag} {mg : Str → Option Value} {base : Heap}
def sp_take_body (K : PySem.W.Frag) : Sp := fun vs H Q _ => ∃ (N : NumD) (i : Nat) (b : BodyD), vs = [.ref N.p] ∧ NAt K N i H ∧ AtR N.R i (bodyN b) ∧ BValid b ∧ RetN K N (i + 7) (BodyAt K b) H Q
theorem ok_take_body (T : Tx K mg) : FnOk P w K mg base CX0 4 (He.fAd K d_take_body.at_) (fd_take_body T) ["numbers"] (sp_take_body K) := by
  refine (F_take_body T).ok sc_take_body (fun vs H Q E h => ?_) (fun cdv A outer s H vs Q E hr h => ?_)
  · obtain ⟨N, i, b, rfl, _⟩ := h
    rfl
  · obtain ⟨N, i, b, rfl, hN, hR, ok, k⟩ := h
    have hR1 : AtR N.R i [b.first.x, b.first.y, b.first.z] := AtR.left (m := [b.last.x, b.last.y, b.last.z, b.radius]) hR
    have hR2 : AtR N.R (i + 3) ([b.last.x, b.last.y, b.last.z] ++ [b.radius]) := AtR.right (l := [b.first.x, b.first.y, b.first.z]) hR
    have hR3 : AtR N.R (i + 3 + 3) [b.radius] := AtR.right (l := [b.last.x, b.last.y, b.last.z]) hR2
    refine ⟨_, PSs.nox (pss_cons (ps_set (i := 1) sc_take_body.nd rfl (Or.inl rfl) (pe_meth0 (pv 0) (c_Numbers T) (m_Numbers_take_vector T) (ok_Numbers_take_vector T) (hr.mono (by decide)) (b_Numbers_take_vector T) .nil pass0))
      (pss_cons (ps_set (i := 2) sc_take_body.nd rfl (Or.inl rfl) (pe_meth0 (pv 0) (c_Numbers T) (m_Numbers_take_vector T) (ok_Numbers_take_vector T) (hr.mono (by decide)) (b_Numbers_take_vector T) .nil pass0))
      (pss_one (ps_ret (pe_make (M_Body T) (ok_Body_init T) (hr.mono (by decide)) rfl (g_Body T) (b_Body_init T) .nil pass0 (pa_cons (pv 1) (pa_cons (pv 2) (pa_cons (pe_meth0 (pv 0) (c_Numbers T) (m_Numbers_take T) (ok_Numbers_take T) (hr.mono (by decide)) (b_Numbers_take T) .nil pass0) pa_nil)))))))), ?_⟩
    walk_at "n0"
    refine EvS.go ?_
    refine en_asg (en_vector T hN (by walk_at "ev") hR1) fun v H1 e1 n1 hv => ?_
    obtain ⟨o1, rfl, h1⟩ := hv
    walk_at "nf"
    refine en_asg (en_vector T n1 (by walk_at "ev") hR2.left) fun v H2 e2 n2 hv => ?_
    obtain ⟨o2, rfl, h2⟩ := hv
    have h1 := n1.sqt n2 e2 (st_of (K := K) h1)
    have h2 : SqT K H2 o2 b.last.vs := st_of h2
    walk_at "nf"
    refine en_ret (en_make (P := BodyAt K b) (ean_v (en_of n2 (ep_of (v := .ref o1) (by walk_at "ev"))) fun H3 e3 n3 => ean_v (en_of n3 (ep_of (v := .ref o2) (by walk_at "ev"))) fun H4 e4 n4 => ean_v (en_take T n4 (by walk_at "ev") hR3.hd) fun H5 e5 n5 => ean_nil n5) fun vs H3 e3 n3 a x dx nx nd ne Q k E => ?_) (k.mono (e1.trans e2))
    obtain ⟨_, rfl, _, rfl, _, rfl, rfl⟩ := a
    exact ⟨b, o1, o2, x, dx, H3, rfl, made_ex nx nd, nx, upd_same, n2.sqt n3 e3 h1, n2.sqt n3 e3 h2, ok, k⟩
theorem en_body (T : Tx K mg) {N : NumD} {i : Nat} {b : BodyD} {σ : L2.St} {H : Hp} {ta : TE} {E : XK} (hN : NAt K N i H) (ho : Ev ta σ H (.ref N.p)) (hR : AtR N.R i (bodyN b)) (ok : BValid b) :
    EvN K N (i + 7) (tCall (sp_take_body K) [] E (tCons ta tNil)) σ H (BodyAt K b) := en_callR hN (ea_cons ho ea_nil) fun H1 n1 Q k E => ⟨N, i, b, rfl, n1, hR, ok, k⟩
def sp_take_joint (K : PySem.W.Frag) : Sp := fun vs H Q _ => ∃ (N : NumD) (i : Nat) (j : JointD), vs = [.ref N.p] ∧ NAt K N i H ∧ AtR N.R i (jointN j) ∧ JValid j ∧ RetN K N (i + 12) (JointAt K j) H Q
theorem turn_dec (b : Bool) : decide ((if b = true then (1 : Int) else 0) = 1) = b := by cases b <;> rfl
theorem ok_take_joint (T : Tx K mg) : FnOk P w K mg base CX0 4 (He.fAd K d_take_joint.at_) (fd_take_joint T) ["numbers"] (sp_take_joint K) := by
  refine (F_take_joint T).ok sc_take_joint (fun vs H Q E h => ?_) (fun cdv A outer s H vs Q E hr h => ?_)
  · obtain ⟨N, i, j, rfl, _⟩ := h
    rfl
  · obtain ⟨N, i, j, rfl, hN, hR, ok, k⟩ := h
    have hR2 : AtR N.R (i + 2) ([j.offset.x, j.offset.y, j.offset.z] ++ [j.least, j.most, j.box, j.error, 1, 1, 1]) := AtR.right (l := [if j.turns = true then 1 else 0, (j.axis : Int)]) hR
    have hR3 : AtR N.R (i + 2 + 3) [j.least, j.most, j.box, j.error, 1, 1, 1] := AtR.right (l := [j.offset.x, j.offset.y, j.offset.z]) hR2
    refine ⟨_, PSs.nox (pss_cons (ps_set (i := 1) sc_take_joint.nd rfl (Or.inl rfl) (pe_cmpR op_eq (pe_meth (pv 0) (c_Numbers T) (m_Numbers_take_within T) (ok_Numbers_take_within T) (hr.mono (by decide)) (b_Numbers_take_within T) .nil pass0 (pa_cons pe_int (pa_cons pe_int pa_nil))) pe_int (nomark _)))
      (pss_cons (ps_set (i := 2) sc_take_joint.nd rfl (Or.inl rfl) (pe_meth0 (pv 0) (c_Numbers T) (m_Numbers_take T) (ok_Numbers_take T) (hr.mono (by decide)) (b_Numbers_take T) .nil pass0))
      (pss_cons (ps_set (i := 3) sc_take_joint.nd rfl (Or.inl rfl) (pe_meth0 (pv 0) (c_Numbers T) (m_Numbers_take_vector T) (ok_Numbers_take_vector T) (hr.mono (by decide)) (b_Numbers_take_vector T) .nil pass0))
      (pss_cons (ps_setLc (i := 4) (own := [("_", 12)]) (g := (gName 12)) (tt := tYes) rfl sc_take_joint.nd rfl rfl (sw_true rfl rfl rfl (by decide +kernel)) (pi_range1 rfl (gf_range T) (pa_cons pe_int pa_nil)) (blkOk_by (own := [("_", 12)]) (N := ["numbers", "turns", "axis", "offset", "row", "least", "most", "box", "error", "speed", "accel", "brake", "_"]) (sc := defScope s_take_joint) (by decide +kernel)) (fun _ _ _ _ _ => (pg_name (i := 12) sc_take_joint.nd rfl (Or.inl rfl))) (fun _ _ _ _ _ => pts_nil) (fun _ _ _ _ _ => (pe_meth0 (pv 0) (c_Numbers T) (m_Numbers_take T) (ok_Numbers_take T) (hr.mono (by decide)) (b_Numbers_take T) .nil pass0)))
      (pss_cons (ps_asg (pv 4) (pg_unlK (K := K) rfl (pgs_cons (pg_name (i := 5) sc_take_joint.nd rfl (Or.inl rfl)) (pgs_cons (pg_name (i := 6) sc_take_joint.nd rfl (Or.inl rfl)) (pgs_cons (pg_name (i := 7) sc_take_joint.nd rfl (Or.inl rfl)) (pgs_cons (pg_name (i := 8) sc_take_joint.nd rfl (Or.inl rfl)) (pgs_cons (pg_name (i := 9) sc_take_joint.nd rfl (Or.inl rfl)) (pgs_cons (pg_name (i := 10) sc_take_joint.nd rfl (Or.inl rfl)) (pgs_cons (pg_name (i := 11) sc_take_joint.nd rfl (Or.inl rfl)) pgs_nil)))))))))
      (pss_one (ps_ret (pe_makeK (M_Joint T) (ok_Joint_init T) (hr.mono (by decide)) rfl (g_Joint T) (kb_Joint_init_5 T).choose_spec pass0 (pa_cons (pv 1) (pa_cons (pv 2) (pa_cons (pv 3) (pa_cons (pv 5) (pa_cons (pv 6) pa_nil))))) (pk_cons (pv 7) (pk_cons (pv 8) (pk_cons (pv 9) (pk_cons (pv 10) (pk_cons (pv 11) pk_nil))))))))))))), ?_⟩
    walk_at "n0"
    refine EvS.go ?_
    refine en_asgV (v := .bl j.turns) (EvN.weak (en_opA (y := .int 1) (en_within T (lo := 0) (hi := 1) hN (by walk_at "ev") (by walk_at "ev") (by walk_at "ev") hR.hd (by cases j.turns <;> decide) (by cases j.turns <;> decide)) (fun H1 e1 n1 => by walk_at "ev") fun H1 => rv_eqI) fun v H1 h => by rw [h, turn_dec]) fun H1 e1 n1 => ?_
    walk_at "nf"
    refine en_asgV (en_take T n1 (by walk_at "ev") hR.tl.hd) fun H2 e2 n2 => ?_
    walk_at "nf"
    refine en_asg (en_vector T n2 (by walk_at "ev") hR2.left) fun v H3 e3 n3 hv => ?_
    obtain ⟨o, rfl, ho⟩ := hv
    have ho : SqT K H3 o j.offset.vs := st_of ho
    walk_at "nf"
    refine en_asg (en_lc (n := 7) (Pi := fun k v _ => v = V.int ([j.least, j.most, j.box, j.error, 1, 1, 1].getD k 0)) (fun k => i + 2 + 3 + k) (ean_of n3 (by walk_at "ea")) (by decide) (fun _ => upz_val) (fun _ => rfl) fun m H' hm e n => ?_) fun v H4 e4 n4 hv => ?_
    · walk_at "nf"
      exact en_take T n (by walk_at "ev") (hR3.get m (by have : (m : Int) < 7 := hm; show m < 7; omega))
    obtain ⟨l, rfl, hl⟩ := isL_of (l := [j.least, j.most, j.box, j.error, 1, 1, 1]) (ys := []) hv
    have n4 : NAt K N (i + 12) H4 := n4
    have ho4 := n3.sqt n4 e4 ho
    walk_at "nf"
    intro H5 e5
    have hl5 : SqL K H5 l [V.int j.least, V.int j.most, V.int j.box, V.int j.error, V.int 1, V.int 1, V.int 1] := sq_of (e5 _ _ hl)
    refine ⟨.ref l, rfl, l, _, rfl, hl5, rfl, _, _, rfl, _, _, rfl, _, _, rfl, _, _, rfl, _, _, rfl, _, _, rfl, _, _, rfl, rfl, ?_⟩
    walk_at "nf"
    have n5 := n4.ex e5
    refine EvS.go (en_ret (en_of n5 (ep_makeK (P := JointAt K j) (vs := [.bl j.turns, .int (j.axis : Int), .ref o, .int j.least, .int j.most]) (zs := [.int j.box, .int j.error, .int 1, .int 1, .int 1]) (by walk_at "ea") (by walk_at "ea") rfl rfl fun H6 e6 x dx nx nd ne Q k E => ?_)) (k.mono (((e1.trans e2).trans e3).trans (e4.trans (Ex.n e5)))))
    exact ⟨j, o, x, dx, H6, rfl, made_ex nx nd, nx, upd_same, ex_t (e5.trans e6) ho4, ok, k⟩
theorem en_joint (T : Tx K mg) {N : NumD} {i : Nat} {j : JointD} {σ : L2.St} {H : Hp} {ta : TE} {E : XK} (hN : NAt K N i H) (ho : Ev ta σ H (.ref N.p)) (hR : AtR N.R i (jointN j)) (ok : JValid j) :
    EvN K N (i + 12) (tCall (sp_take_joint K) [] E (tCons ta tNil)) σ H (JointAt K j) := en_callR hN (ea_cons ho ea_nil) fun H1 n1 Q k E => ⟨N, i, j, rfl, n1, hR, ok, k⟩
def sp_take_capsule (K : PySem.W.Frag) : Sp := fun vs H Q _ => ∃ (N : NumD) (i : Nat) (c : Nat × BodyD), vs = [.ref N.p] ∧ NAt K N i H ∧ AtR N.R i (capN c) ∧ BValid c.2 ∧ RetN K N (i + 8) (CapAt K c) H Q
theorem ok_take_capsule (T : Tx K mg) : FnOk P w K mg base CX0 5 (He.fAd K d_take_capsule.at_) (fd_take_capsule T) ["numbers"] (sp_take_capsule K) := by
  refine (F_take_capsule T).ok sc_take_capsule (fun vs H Q E h => ?_) (fun cdv A outer s H vs Q E hr h => ?_)
  · obtain ⟨N, i, c, rfl, _⟩ := h
    rfl
  · obtain ⟨N, i, c, rfl, hN, hR, ok, k⟩ := h
    refine ⟨_, PSs.nox (pss_cons (ps_set (i := 1) sc_take_capsule.nd rfl (Or.inl rfl) (pe_meth0 (pv 0) (c_Numbers T) (m_Numbers_take T) (ok_Numbers_take T) (hr.mono (by decide)) (b_Numbers_take T) .nil pass0))
      (pss_one (ps_ret (pe_make (M_Capsule T) (ok_Capsule_init T) (hr.mono (by decide)) rfl (g_Capsule T) (b_Capsule_init T) .nil pass0 (pa_cons (pv 1) (pa_cons (pe_call (ok_take_body T) (hr.mono (by decide)) rfl (g_take_body T) (F_take_body T).kp (b_take_body T) .nil pass0 (pa_cons (pv 0) pa_nil)) pa_nil)))))), ?_⟩
    walk_at "n0"
    refine EvS.go ?_
    refine en_asgV (en_take T hN (by walk_at "ev") hR.hd) fun H1 e1 n1 => ?_
    walk_at "nf"
    refine en_ret (en_make (P := CapAt K c) (j := i + 8) (ean_v (en_of n1 (ep_of (v := .int (c.1 : Int)) (by walk_at "ev"))) fun H3 e3 n3 => ean_cons n3 (en_body T n3 (by walk_at "ev") hR.tl ok) (z_Body T _) fun v H4 e4 n4 hv => ean_nil n4) fun vs H3 e3 n3 a x dx nx nd ne Q k E => ?_) (k.mono e1)
    obtain ⟨_, rfl, bv, _, rfl, hb, rfl⟩ := a
    exact ⟨c, bv, x, dx, H3, rfl, made_ex nx nd, nx, upd_same, hb, k⟩
theorem en_capsule (T : Tx K mg) {N : NumD} {i : Nat} {c : Nat × BodyD} {σ : L2.St} {H : Hp} {ta : TE} {E : XK} (hN : NAt K N i H) (ho : Ev ta σ H (.ref N.p)) (hR : AtR N.R i (capN c)) (ok : BValid c.2) :
    EvN K N (i + 8) (tCall (sp_take_capsule K) [] E (tCons ta tNil)) σ H (CapAt K c) := en_callR hN (ea_cons ho ea_nil) fun H1 n1 Q k E => ⟨N, i, c, rfl, n1, hR, ok, k⟩
end
/-! Arms, movers, matters from integers. -/
section
variable {K : PySem.W.Frag} {N : NumD} {i j k : Nat} {σ : L2.St} {H H' H2 : Hp} {ta tb te to : TE} {x y v z : V} {P P' : VP} {A : AP} {tr tk : TA} {vs zs : List V}
/-- one argument that takes -/
theorem ean_1 (h : EvN K N j te σ H (fun u _ => u = x)) : EvAN K N j (tCons te tNil) σ H (fun us _ => us = [x]) := fun H1 e Q q => h H1 e _ fun u H2 e2 n2 p => by
  subst p
  exact q _ H2 e2 n2 rfl
theorem EvN.cast {j' : Nat} (e : j = j') (h : EvN K N j te σ H P) : EvN K N j' te σ H P := e ▸ h
theorem NAt.cast {j' : Nat} (e : j = j') (h : NAt K N j H) : NAt K N j' H := e ▸ h
end
structure ArmOk (A : ArmD) : Prop where
  a : AValid A
  j : ∀ k, k < A.joints.length → JValid (A.joints.getD k default)
  c : ∀ k, k < A.caps.length → BValid (A.caps.getD k default).2
theorem jointN_len (j : JointD) : (jointN j).length = 12 := rfl
theorem capN_len (c : Nat × BodyD) : (capN c).length = 8 := rfl
theorem pairN_len (q : Int × Int) : (pairN q).length = 2 := rfl
theorem bodyN_len (b : BodyD) : (bodyN b).length = 7 := rfl
section
variable {P : Program} {w : World} {K : PySem.W.Frag} {mg : Str → Option Value} {base : Heap}
def sp_take_arm (K : PySem.W.Frag) : Sp := fun vs H Q _ => ∃ (N : NumD) (i : Nat) (A : ArmD), vs = [.ref N.p] ∧ NAt K N i H ∧ AtR N.R i (armN A) ∧ ArmOk A ∧ RetN K N (i + (armN A).length) (ArmAt K A) H Q
theorem ok_take_arm (T : Tx K mg) : FnOk P w K mg base CX0 6 (He.fAd K d_take_arm.at_) (fd_take_arm T) ["numbers"] (sp_take_arm K) := by
  refine (F_take_arm T).ok sc_take_arm (fun vs H Q E h => ?_) (fun cdv A outer s H vs Q E hr h => ?_)
  · obtain ⟨N, i, A, rfl, _⟩ := h
    rfl
  · obtain ⟨N, i, A, rfl, hN, hR, ok, k⟩ := h
    have oj6 := ok.a.j6
    have oc8 := ok.a.c8
    have ob8 := ok.a.b8
    have lj := flat_eq jointN_len A.joints
    have lc := flat_eq capN_len A.caps
    have lb := flat_eq pairN_len A.beside
    have hR0 : AtR N.R i (((A.joints.length : Int) :: A.joints.flatMap jointN) ++ ((A.caps.length : Int) :: A.caps.flatMap capN)) := hR.left
    have hRj : AtR N.R i ((A.joints.length : Int) :: A.joints.flatMap jointN) := hR0.left
    have hRc : AtR N.R (i + 1 + A.joints.length * 12) ((A.caps.length : Int) :: A.caps.flatMap capN) := by
      have := hR0.right
      rw [List.length_cons, lj] at this
      rw [show i + 1 + A.joints.length * 12 = i + (A.joints.length * 12 + 1) by omega]
      exact this
    have hRb : AtR N.R (i + 1 + A.joints.length * 12 + 1 + A.caps.length * 8) ((A.beside.length : Int) :: A.beside.flatMap pairN) := by
      have := hR.right
      rw [List.length_append, List.length_cons, List.length_cons, lj, lc] at this
      rw [show i + 1 + A.joints.length * 12 + 1 + A.caps.length * 8 = i + (A.joints.length * 12 + 1 + (A.caps.length * 8 + 1)) by omega]
      exact this
    have hlen : (armN A).length = A.joints.length * 12 + 1 + (A.caps.length * 8 + 1) + (A.beside.length * 2 + 1) := by
      unfold armN
      rw [List.length_append, List.length_append, List.length_cons, List.length_cons, List.length_cons, lj, lc, lb]
    have z1 := hRj.len
    have z2 := hRc.len
    have z3 := hRb.len
    rw [List.length_cons, lj] at z1
    rw [List.length_cons, lc] at z2
    rw [List.length_cons, lb] at z3
    refine ⟨_, PSs.nox (pss_cons (ps_setLc (i := 1) (own := [("_", 4)]) (g := (gName 4)) (tt := tYes) rfl sc_take_arm.nd rfl rfl (sw_true rfl rfl rfl (by decide +kernel)) (pi_range1 rfl (gf_range T) (pa_cons (pe_meth0 (pv 0) (c_Numbers T) (m_Numbers_take_size T) (ok_Numbers_take_size T) (hr.mono (by decide)) (b_Numbers_take_size T) .nil pass0) pa_nil)) (blkOk_by (own := [("_", 4)]) (N := ["numbers", "joints", "capsules", "beside", "_"]) (sc := defScope s_take_arm) (by decide +kernel)) (fun _ _ _ _ _ => (pg_name (i := 4) sc_take_arm.nd rfl (Or.inl rfl))) (fun _ _ _ _ _ => pts_nil) (fun _ _ _ _ _ => (pe_call (ok_take_joint T) (hr.mono (by decide)) rfl (g_take_joint T) (F_take_joint T).kp (b_take_joint T) .nil pass0 (pa_cons (pv 0) pa_nil))))
      (pss_cons (ps_setLc (i := 2) (own := [("_", 4)]) (g := (gName 4)) (tt := tYes) rfl sc_take_arm.nd rfl rfl (sw_true rfl rfl rfl (by decide +kernel)) (pi_range1 rfl (gf_range T) (pa_cons (pe_meth0 (pv 0) (c_Numbers T) (m_Numbers_take_size T) (ok_Numbers_take_size T) (hr.mono (by decide)) (b_Numbers_take_size T) .nil pass0) pa_nil)) (blkOk_by (own := [("_", 4)]) (N := ["numbers", "joints", "capsules", "beside", "_"]) (sc := defScope s_take_arm) (by decide +kernel)) (fun _ _ _ _ _ => (pg_name (i := 4) sc_take_arm.nd rfl (Or.inl rfl))) (fun _ _ _ _ _ => pts_nil) (fun _ _ _ _ _ => (pe_call (ok_take_capsule T) (hr.mono (by decide)) rfl (g_take_capsule T) (F_take_capsule T).kp (b_take_capsule T) .nil pass0 (pa_cons (pv 0) pa_nil))))
      (pss_cons (ps_setLc (i := 3) (own := [("_", 4)]) (g := (gName 4)) (tt := tYes) rfl sc_take_arm.nd rfl rfl (sw_true rfl rfl rfl (by decide +kernel)) (pi_range1 rfl (gf_range T) (pa_cons (pe_meth0 (pv 0) (c_Numbers T) (m_Numbers_take_size T) (ok_Numbers_take_size T) (hr.mono (by decide)) (b_Numbers_take_size T) .nil pass0) pa_nil)) (blkOk_by (own := [("_", 4)]) (N := ["numbers", "joints", "capsules", "beside", "_"]) (sc := defScope s_take_arm) (by decide +kernel)) (fun _ _ _ _ _ => (pg_name (i := 4) sc_take_arm.nd rfl (Or.inl rfl))) (fun _ _ _ _ _ => pts_nil) (fun _ _ _ _ _ => (pe_tup (pa_cons (pe_meth0 (pv 0) (c_Numbers T) (m_Numbers_take T) (ok_Numbers_take T) (hr.mono (by decide)) (b_Numbers_take T) .nil pass0) (pa_cons (pe_meth0 (pv 0) (c_Numbers T) (m_Numbers_take T) (ok_Numbers_take T) (hr.mono (by decide)) (b_Numbers_take T) .nil pass0) pa_nil)))))
      (pss_one (ps_ret (pe_makeK (M_Arm T) (ok_Arm_init T) (hr.mono (by decide)) rfl (g_Arm T) (kb_Arm_init_1 T).choose_spec pass0 (pa_cons (pv 1) (pa_cons (pv 2) pa_nil)) (pk_cons (pv 3) pk_nil))))))), ?_⟩
    walk_at "n0"
    refine EvS.go ?_
    refine en_asg (en_lc (n := (A.joints.length : Int)) (Pi := fun k => JointAt K (A.joints.getD k default)) (fun k => i + 1 + k * 12) (ean_1 (EvN.cast (by omega) (en_size T hN (by walk_at "ev") hRj.hd (by omega) (by omega)))) (by omega) (fun _ => z_Joint T _) (fun _ => rfl) fun m H' hm e n => ?_) fun v H1 e1 n1 hv => ?_
    · walk_at "nf"
      have hm : m < A.joints.length := by omega
      exact EvN.cast (by omega) (en_joint T n (by walk_at "ev") (hRj.tl.piece jointN_len m hm) (ok.j m hm))
    have n1 : NAt K N (i + 1 + A.joints.length * 12) H1 := n1
    have hv1 : LsP A.joints.length (fun k => JointAt K (A.joints.getD k default)) v H1 := hv
    walk_at "nf"
    refine en_asg (en_lc (n := (A.caps.length : Int)) (Pi := fun k => CapAt K (A.caps.getD k default)) (fun k => i + 1 + A.joints.length * 12 + 1 + k * 8) (ean_1 (EvN.cast (by omega) (en_size T n1 (by walk_at "ev") hRc.hd (by omega) (by omega)))) (by omega) (fun _ => z_Cap T _) (fun _ => rfl) fun m H' hm e n => ?_) fun u H2 e2 n2 hu => ?_
    · walk_at "nf"
      have hm : m < A.caps.length := by omega
      exact EvN.cast (by omega) (en_capsule T n (by walk_at "ev") (hRc.tl.piece capN_len m hm) (ok.c m hm))
    have n2 : NAt K N (i + 1 + A.joints.length * 12 + 1 + A.caps.length * 8) H2 := n2
    have hu2 : LsP A.caps.length (fun k => CapAt K (A.caps.getD k default)) u H2 := hu
    have hv2 := n1.lsP (fun _ => z_Joint T _) n2 e2 hv1
    walk_at "nf"
    refine en_asg (en_lc (n := (A.beside.length : Int)) (Pi := fun k => PairAt K (A.beside.getD k default)) (fun k => i + 1 + A.joints.length * 12 + 1 + A.caps.length * 8 + 1 + k * 2) (ean_1 (EvN.cast (by omega) (en_size T n2 (by walk_at "ev") hRb.hd (by omega) (by omega)))) (by omega) (fun _ => z_Pair _) (fun _ => rfl) fun m H' hm e n => ?_) fun w H3 e3 n3 hw => ?_
    · walk_at "nf"
      have hm : m < A.beside.length := by omega
      have hq := hRb.tl.piece pairN_len m hm
      generalize A.beside.getD m default = q at *
      refine EvN.weak (EvN.cast (by omega) (en_tup (vs := [.int q.1, .int q.2]) (j := i + 1 + A.joints.length * 12 + 1 + A.caps.length * 8 + 1 + m * 2 + 1 + 1) (fun H1 e1 Q q => ?_) (Nat.le_of_ble_eq_true rfl))) fun v H1 h => h.rd
      refine ean_v (en_take T n (by walk_at "ev") hq.hd) (fun H2 e2 n2 => ean_v (en_take T n2 (by walk_at "ev") hq.tl.hd) fun H3 e3 n3 => ean_nil n3) H1 e1 Q fun us H2 e2 n2 a => ?_
      obtain ⟨_, rfl, _, rfl, rfl⟩ := a
      exact q _ H2 e2 n2 rfl
    have n3 : NAt K N (i + 1 + A.joints.length * 12 + 1 + A.caps.length * 8 + 1 + A.beside.length * 2) H3 := n3
    have n3 : NAt K N (i + (armN A).length) H3 := n3.cast (by omega)
    have hw3 : LsP A.beside.length (fun k => PairAt K (A.beside.getD k default)) w H3 := hw
    have hu3 := n2.lsP (fun _ => z_Cap T _) n3 e3 hu2
    have hv3 := n2.lsP (fun _ => z_Joint T _) n3 e3 hv2
    obtain ⟨lj, rfl, hj⟩ := hv3.rl
    obtain ⟨lc, rfl, hc⟩ := hu3.rl
    obtain ⟨lb, rfl, hb⟩ := hw3.rl
    walk_at "nf"
    refine en_ret (en_of n3 (ep_makeK (P := ArmAt K A) (vs := [.ref lj, .ref lc]) (zs := [.ref lb]) (by walk_at "ea") (by walk_at "ea") rfl rfl fun H6 e6 x dx nx nd ne Q k E => ?_)) (k.mono ((e1.trans e2).trans e3))
    exact ⟨A, lj, lc, lb, x, dx, H6, rfl, made_ex nx nd, nx, upd_same, hj.up (fun _ => (z_Joint T _).up) e6, hc.up (fun _ => (z_Cap T _).up) e6, hb.up (fun _ => (z_Pair _).up) e6, ok.a, k⟩
theorem en_arm (T : Tx K mg) {N : NumD} {i : Nat} {A : ArmD} {σ : L2.St} {H : Hp} {ta : TE} {E : XK} (hN : NAt K N i H) (ho : Ev ta σ H (.ref N.p)) (hR : AtR N.R i (armN A)) (ok : ArmOk A) :
    EvN K N (i + (armN A).length) (tCall (sp_take_arm K) [] E (tCons ta tNil)) σ H (ArmAt K A) := en_callR hN (ea_cons ho ea_nil) fun H1 n1 Q k E => ⟨N, i, A, rfl, n1, hR, ok, k⟩
def sp_take_row (K : PySem.W.Frag) : Sp := fun vs H Q _ => ∃ (N : NumD) (i : Nat) (l : List Int), vs = [.ref N.p, .int (l.length : Int)] ∧ NAt K N i H ∧ AtR N.R i l ∧ l.length ≤ 1000 ∧ RetN K N (i + l.length) (IsL (l.map V.int)) H Q
theorem ok_take_row (T : Tx K mg) : FnOk P w K mg base CX0 2 (He.fAd K d_take_row.at_) (fd_take_row T) ["numbers", "many"] (sp_take_row K) := by
  refine (F_take_row T).ok sc_take_row (fun vs H Q E h => ?_) (fun cdv A outer s H vs Q E hr h => ?_)
  · obtain ⟨N, i, l, rfl, _⟩ := h
    rfl
  · obtain ⟨N, i, l, rfl, hN, hR, hl, k⟩ := h
    refine ⟨_, PSs.nox (pss_one (ps_ret (pe_lc (own := [("_", 2)]) (g := (gName 2)) (tt := tYes) rfl sc_take_row.nd (pi_range1 rfl (gf_range T) (pa_cons (pv 1) pa_nil)) (blkOk_by (own := [("_", 2)]) (N := ["numbers", "many", "_"]) (sc := defScope s_take_row) (by decide +kernel)) (fun _ _ _ _ _ => (pg_name (i := 2) sc_take_row.nd rfl (Or.inl rfl))) (fun _ _ _ _ _ => pts_nil) (fun _ _ _ _ _ => (pe_meth0 (pv 0) (c_Numbers T) (m_Numbers_take T) (ok_Numbers_take T) (hr.mono (by decide)) (b_Numbers_take T) .nil pass0))))), ?_⟩
    walk_at "n0"
    refine EvS.go ?_
    refine en_ret (EvN.weak (en_lc (n := (l.length : Int)) (Pi := fun k v _ => v = V.int (l.getD k 0)) (fun k => i + k) (ean_of hN (by walk_at "ea")) (by omega) (fun _ => upz_val) (fun _ => rfl) fun m H' hm e n => ?_) fun v H1 h => isL_of (ys := []) h) k
    walk_at "nf"
    exact en_take T n (by walk_at "ev") (hR.get m (by omega))
structure MvOk (M : MoverD) : Prop where
  a : ArmOk M.arm
  f : FitsOk M.arm.joints M.first
  l : FitsOk M.arm.joints M.last
  h4 : M.held.length ≤ 4
  h : ∀ k, k < M.held.length → BValid (M.held.getD k default)
def sp_take_mover (K : PySem.W.Frag) : Sp := fun vs H Q _ => ∃ (N : NumD) (i : Nat) (M : MoverD), vs = [.ref N.p] ∧ NAt K N i H ∧ AtR N.R i (moverN M) ∧ MvOk M ∧ RetN K N (i + (moverN M).length) (MoverAt K M) H Q
theorem ok_take_mover (T : Tx K mg) : FnOk P w K mg base CX0 7 (He.fAd K d_take_mover.at_) (fd_take_mover T) ["numbers"] (sp_take_mover K) := by
  refine (F_take_mover T).ok sc_take_mover (fun vs H Q E h => ?_) (fun cdv A outer s H vs Q E hr h => ?_)
  · obtain ⟨N, i, M, rfl, _⟩ := h
    rfl
  · obtain ⟨N, i, M, rfl, hN, hR, ok, k⟩ := h
    have fl := ok.f.l
    have ll := ok.l.l
    have f6 := ok.f.l6
    have l6 := ok.l.l6
    have h4 := ok.h4
    have lh := flat_eq bodyN_len M.held
    have hR0 : AtR N.R i (armN M.arm ++ M.first ++ M.last) := hR.left
    have hRa : AtR N.R i (armN M.arm) := hR0.left.left
    have hRf : AtR N.R (i + (armN M.arm).length) M.first := hR0.left.right
    have hRl : AtR N.R (i + (armN M.arm).length + M.first.length) M.last := by
      have := hR0.right
      rw [List.length_append, ← Nat.add_assoc] at this
      exact this
    have hRh : AtR N.R (i + (armN M.arm).length + M.first.length + M.last.length) ((M.held.length : Int) :: M.held.flatMap bodyN) := by
      have := hR.right
      rw [List.length_append, List.length_append, ← Nat.add_assoc, ← Nat.add_assoc] at this
      exact this
    have hlen : (moverN M).length = (armN M.arm).length + M.first.length + M.last.length + (M.held.length * 7 + 1) := by
      unfold moverN
      rw [List.length_append, List.length_append, List.length_append, List.length_cons, lh]
    refine ⟨_, PSs.nox (pss_cons (ps_set (i := 1) sc_take_mover.nd rfl (Or.inl rfl) (pe_call (ok_take_arm T) (hr.mono (by decide)) rfl (g_take_arm T) (F_take_arm T).kp (b_take_arm T) .nil pass0 (pa_cons (pv 0) pa_nil)))
      (pss_cons (ps_set (i := 2) sc_take_mover.nd rfl (Or.inl rfl) (pe_call (ok_take_row T) (hr.mono (by decide)) rfl (g_take_row T) (F_take_row T).kp (b_take_row T) .nil pass0 (pa_cons (pv 0) (pa_cons (pe_callB (k_lenK (K := K)) rfl (gf_len T) PySem.boot_len (pa_cons (pe_fldK (K := K) (pv 1) rfl) pa_nil)) pa_nil))))
      (pss_cons (ps_set (i := 3) sc_take_mover.nd rfl (Or.inl rfl) (pe_call (ok_take_row T) (hr.mono (by decide)) rfl (g_take_row T) (F_take_row T).kp (b_take_row T) .nil pass0 (pa_cons (pv 0) (pa_cons (pe_callB (k_lenK (K := K)) rfl (gf_len T) PySem.boot_len (pa_cons (pe_fldK (K := K) (pv 1) rfl) pa_nil)) pa_nil))))
      (pss_cons (ps_setLc (i := 4) (own := [("_", 5)]) (g := (gName 5)) (tt := tYes) rfl sc_take_mover.nd rfl rfl (sw_true rfl rfl rfl (by decide +kernel)) (pi_range1 rfl (gf_range T) (pa_cons (pe_meth (pv 0) (c_Numbers T) (m_Numbers_take_within T) (ok_Numbers_take_within T) (hr.mono (by decide)) (b_Numbers_take_within T) .nil pass0 (pa_cons pe_int (pa_cons pe_int pa_nil))) pa_nil)) (blkOk_by (own := [("_", 5)]) (N := ["numbers", "arm", "first", "last", "held", "_"]) (sc := defScope s_take_mover) (by decide +kernel)) (fun _ _ _ _ _ => (pg_name (i := 5) sc_take_mover.nd rfl (Or.inl rfl))) (fun _ _ _ _ _ => pts_nil) (fun _ _ _ _ _ => (pe_call (ok_take_body T) (hr.mono (by decide)) rfl (g_take_body T) (F_take_body T).kp (b_take_body T) .nil pass0 (pa_cons (pv 0) pa_nil))))
      (pss_one (ps_ret (pe_make (M_Mover T) (ok_Mover_init T) (hr.mono (by decide)) rfl (g_Mover T) (b_Mover_init T) .nil pass0 (pa_cons (pv 1) (pa_cons (pe_make (M_Move T) (ok_Move_init T) (hr.mono (by decide)) rfl (g_Move T) (b_Move_init T) .nil pass0 (pa_cons (pv 1) (pa_cons (pv 2) (pa_cons (pv 3) pa_nil)))) (pa_cons (pv 4) pa_nil)))))))))), ?_⟩
    walk_at "n0"
    refine EvS.go ?_
    refine en_asg (en_arm T hN (by walk_at "ev") hRa ok.a) fun av H1 e1 n1 hA => ?_
    obtain ⟨a, dx, tj, tc, tb, rfl, ha, ⟨yj, j1, j2, j3⟩, _⟩ := id hA
    walk_at "nf"
    refine en_asg (en_callR (P := IsL (M.first.map V.int)) (j := i + (armN M.arm).length + M.first.length) (vs := [.ref N.p, .int (M.first.length : Int)]) n1 (ea_cons (by walk_at "ev") (ea_cons (ev_is (by walk_at "ev") (by rw [j2, fl])) ea_nil)) fun H2 n2 Q k E => ⟨N, _, M.first, rfl, n2, hRf, by omega, k⟩) fun v H2 e2 n2 hv => ?_
    obtain ⟨l1, rfl, hl1⟩ := hv
    have hA2 := z_Arm T _ _ _ _ (n1.ez n2 e2) hA
    obtain ⟨a2, dx2, tj2, tc2, tb2, er2, ha2, ⟨yj2, j12, j22, j32⟩, _⟩ := id hA2
    cases er2
    walk_at "nf"
    refine en_asg (en_callR (P := IsL (M.last.map V.int)) (j := i + (armN M.arm).length + M.first.length + M.last.length) (vs := [.ref N.p, .int (M.last.length : Int)]) n2 (ea_cons (by walk_at "ev") (ea_cons (ev_is (by walk_at "ev") (by rw [j22, ll])) ea_nil)) fun H2 n2 Q k E => ⟨N, _, M.last, rfl, n2, hRl, by omega, k⟩) fun v H3 e3 n3 hv => ?_
    obtain ⟨l2, rfl, hl2⟩ := hv
    have hA3 := z_Arm T _ _ _ _ (n2.ez n3 e3) hA2
    have hl13 := n2.lst e3 hl1
    walk_at "nf"
    refine en_asg (en_lc (n := (M.held.length : Int)) (Pi := fun k => BodyAt K (M.held.getD k default)) (fun k => i + (armN M.arm).length + M.first.length + M.last.length + 1 + k * 7) (ean_1 (EvN.cast (by omega) (en_within T n3 (by walk_at "ev") (by walk_at "ev") (by walk_at "ev") hRh.hd (by omega) (by omega)))) (by omega) (fun _ => z_Body T _) (fun _ => rfl) fun m H' hm e n => ?_) fun w H4 e4 n4 hw => ?_
    · walk_at "nf"
      have hm : m < M.held.length := by omega
      exact EvN.cast (by omega) (en_body T n (by walk_at "ev") (hRh.tl.piece bodyN_len m hm) (ok.h m hm))
    have n4 : NAt K N (i + (armN M.arm).length + M.first.length + M.last.length + 1 + M.held.length * 7) H4 := n4
    have n4 : NAt K N (i + (moverN M).length) H4 := n4.cast (by omega)
    have hw : LsP M.held.length (fun k => BodyAt K (M.held.getD k default)) w H4 := hw
    have hA4 := z_Arm T _ _ _ _ (n3.ez n4 e4) hA3
    have hl14 : SqL K H4 l1 (M.first.map V.int) := sq_of (n3.lst e4 hl13)
    have hl24 : SqL K H4 l2 (M.last.map V.int) := sq_of (n3.lst e4 hl2)
    obtain ⟨lh, rfl, hh⟩ := hw.rl
    walk_at "nf"
    refine en_ret (en_of n4 (ep_make (P := MoverAt K M) (epa1 (x := .ref a) (by walk_at "ev") (epaP (P := MoveAt K M.first M.last) (ep_make (epa1 (x := .ref a) (by walk_at "ev") (epa1 (x := .ref l1) (by walk_at "ev") (epa1 (x := .ref l2) (by walk_at "ev") epa_nil))) fun vs H5 e5 a x dx nx nd ne Q k E => ?_) (z_Move T _ _).up (epa1 (x := .ref lh) (by walk_at "ev") epa_nil))) fun vs H5 e5 a x dx nx nd ne Q k E => ?_)) (k.mono (((e1.trans e2).trans e3).trans e4))
    · obtain ⟨_, rfl, _, rfl, _, rfl, rfl⟩ := a
      exact ⟨M.arm, M.first, M.last, _, l1, l2, x, dx, H5, rfl, made_ex nx nd, nx, upd_same, z_Arm T _ _ _ _ (Ex.z e5) hA4, ex_l e5 hl14, ex_l e5 hl24, ok.f, ok.l, k⟩
    · obtain ⟨_, rfl, mv, _, rfl, hmv, _, rfl, rfl⟩ := a
      exact ⟨M, _, mv, lh, x, dx, H5, rfl, made_ex nx nd, nx, upd_same, z_Arm T _ _ _ _ (Ex.z e5) hA4, hmv, .inr (hh.up (fun _ => (z_Body T _).up) e5), k⟩
end
/-! A certificate, read. -/
section
variable {K : PySem.W.Frag} {N : NumD} {i j k : Nat} {σ : L2.St} {H H' H2 : Hp} {ta tb te to : TE} {x y v z : V} {P P' : VP} {A : AP} {tr tk : TA} {vs zs : List V}
theorem en_tupA (h : EvAN K N j tr σ H A) (hA : UpA A) (hl : ∀ vs H1, A vs H1 → vs.length ≤ 100000) : EvN K N j (tTup tr) σ H (TupA A) := fun H1 e Q q =>
  h H1 e _ fun vs H2 e2 n2 a => ⟨sz_of (hl vs H2 a), fun p hp => q _ _ (e2.trans (Ex.n (Ex.new hp))) (n2.ex (Ex.new hp)) ⟨p, vs, rfl, upd_same, hA _ _ _ (Ex.new hp) a⟩⟩
theorem en_cb {r : List V → Hp → VK → Prop} (h : EvAN K N j tr σ H A) (hs : ∀ vs H1, NAt K N j H1 → A vs H1 → ∀ Q : VK, Ret P H1 Q → r vs H1 Q) : EvN K N j (tCB r tr) σ H P := fun H1 e Q q =>
  h H1 e _ fun vs H2 e2 n2 a => hs vs H2 n2 a Q fun v H3 e3 p => q v H3 (e2.trans (Ex.n e3)) (n2.ex e3) p
theorem en_thru {D : Ends} {tz : TS} {m : Nat} (h : EvN K N j te σ H P) (k : ∀ v H1, ExN N.p H H1 → NAt K N j H1 → P v H1 → EvS tz D (σ.set m (some v)) H1) : EvS (tSeq (tThru (tAsg te (gName m)) tNext) tz) D σ H := fun H1 e => h H1 e _ fun v H2 e2 n2 p => k v H2 ((Ex.n e).trans e2) n2 p H2 (Ex.refl H2)
theorem z_dropP {D : Ends} {tz : TS} (h : EvP te σ H P) (k : ∀ v H1, Ex H H1 → P v H1 → EvS tz D σ H1) : EvS (tSeq (tDrop te) tz) D σ H := fun H1 e => h H1 e _ fun v H2 e2 p => k v H2 (e.trans e2) p H2 (Ex.refl H2)
theorem en_tupOf {n : Nat} {Pi : Nat → VP} (hP : ∀ i, UpZ K (Pi i)) (h : EvN K N j te σ H (LsP n Pi)) : EvN K N j (tCB (rTupOf K) (tCons te tNil)) σ H (TpP n Pi) := fun H1 e Q q =>
  h H1 e _ fun v H2 e2 n2 hv => by
    obtain ⟨p, vs, rfl, hp, hl, a⟩ := hv
    exact ⟨p, vs, rfl, .inl ⟨sq_of hp, fun l hl' => q _ _ (e2.trans (Ex.n (Ex.new hl'))) (n2.ex (Ex.new hl')) ⟨l, vs, rfl, upd_same, hl, fun i y z => (hP i).up y _ _ (Ex.new hl') (a i y z)⟩⟩⟩
end
section
variable {P : Program} {w : World} {K : PySem.W.Frag} {mg : Str → Option Value} {base : Heap}
def sp_take_matter (K : PySem.W.Frag) : Sp := fun vs H Q _ => ∃ (N : NumD) (i : Nat) (M : MoverD), vs = [.ref N.p] ∧ NAt K N i H ∧ AtR N.R i (matterN M) ∧ MvOk M ∧ RetN K N (i + (matterN M).length) (MatterAt K M) H Q
theorem ok_take_matter (T : Tx K mg) : FnOk P w K mg base CX0 8 (He.fAd K d_take_matter.at_) (fd_take_matter T) ["numbers"] (sp_take_matter K) := by
  refine (F_take_matter T).ok sc_take_matter (fun vs H Q E h => ?_) (fun cdv A outer s H vs Q E hr h => ?_)
  · obtain ⟨N, i, M, rfl, _⟩ := h
    rfl
  · obtain ⟨N, i, M, rfl, hN, hR, ok, k⟩ := h
    have hlen : (matterN M).length = (moverN M).length + 1 := rfl
    have hR : AtR N.R i (1 :: moverN M) := hR
    refine ⟨_, PSs.nox (pss_cons (ps_set (i := 1) sc_take_matter.nd rfl (Or.inl rfl) (pe_ix (ix_tupK (K := K)) (pe_globR rfl (g_KINDS T)) (pe_meth (pv 0) (c_Numbers T) (m_Numbers_take_within T) (ok_Numbers_take_within T) (hr.mono (by decide)) (b_Numbers_take_within T) .nil pass0 (pa_cons pe_int (pa_cons pe_int pa_nil))) (fun _ _ => rfl)))
      (pss_cons (ps_set (i := 2) sc_take_matter.nd rfl (Or.inl rfl) (pe_call (ok_take_mover T) (hr.mono (by decide)) rfl (g_take_mover T) (F_take_mover T).kp (b_take_mover T) .nil pass0 (pa_cons (pv 0) pa_nil)))
      (pss_cons (ps_if (pt_cmpR op_eq (pv 1) pe_str (nomark _)) (pss_one ps_never) pss_nil)
      (pss_cons (ps_if (pt_cmpR op_eq (pv 1) pe_str (nomark _)) (pss_one ps_never) pss_nil)
      (pss_one (ps_ret (pe_make (M_Matter T) (ok_Matter_init T) (hr.mono (by decide)) rfl (g_Matter T) (bd_Matter_init T) vals_non pass0 (pa_cons (pv 1) (pa_cons (pv 2) pa_nil))))))))), ?_⟩
    walk_at "n0"
    refine EvS.go ?_
    refine en_asgV (v := .str "self") (en_opB (y := .int 1) (by exact ev_c) (en_within T (lo := 0) (hi := 2) hN (by walk_at "ev") (by walk_at "ev") (by walk_at "ev") hR.hd (by decide) (by decide)) fun H1 => rv_ixT (kinds_t T H1) rfl) fun H1 e1 n1 => ?_
    walk_at "nf"
    refine en_asg (en_callR (P := MoverAt K M) (j := i + (matterN M).length) (vs := [.ref N.p]) n1 (by walk_at "ea") fun H2 n2 Q k E => ⟨N, _, M, rfl, n2, hR.tl, ok, by rw [show i + 1 + (moverN M).length = i + (matterN M).length by omega]; exact k⟩) fun v H2 e2 n2 hv => ?_
    walk_at "nf"
    have q1 : decide (("self" : Str) = "shape") = false := by decide +kernel
    have q2 : decide (("self" : Str) = "arms") = false := by decide +kernel
    refine z_skip (et_is (by walk_at "et") q1) ?_
    refine z_skip (et_is (by walk_at "et") q2) ?_
    refine en_ret (en_of n2 (P := MatterAt K M) (fun H3 e3 Q q => ?_)) (k.mono (e1.trans e2))
    refine ep_make (dvs := [V.non]) (P := MatterAt K M) (epa1 (x := .str "self") (by walk_at "ev") (epa1 (x := v) (by walk_at "ev") epa_nil)) (fun vs H5 e5 a x dx nx nd ne Q k E => ?_) H3 e3 Q q
    obtain ⟨_, rfl, _, rfl, rfl⟩ := a
    exact ⟨M, v, x, dx, H5, rfl, made_ex nx nd, nx, upd_same, z_Mover T _ _ _ _ (Ex.z e5) hv, k⟩
def sp_take_tree (K : PySem.W.Frag) : Sp := fun vs H Q _ => ∃ (N : NumD) (i : Nat) (m : Int), vs = [.ref N.p, .int m] ∧ NAt K N i H ∧ AtR N.R i [0, 0] ∧ RetN K N (i + 2) (TreeAt K) H Q
theorem ok_take_tree (T : Tx K mg) : FnOk P w K mg base CX0 4 (He.fAd K d_take_tree.at_) (fd_take_tree T) ["numbers", "left"] (sp_take_tree K) := by
  refine (F_take_tree T).ok sc_take_tree (fun vs H Q E h => ?_) (fun cdv A outer s H vs Q E hr h => ?_)
  · obtain ⟨N, i, m, rfl, _⟩ := h
    rfl
  · obtain ⟨N, i, m, rfl, hN, hR, k⟩ := h
    refine ⟨_, PSs.nox (pss_cons (ps_set (i := 2) sc_take_tree.nd rfl (Or.inl rfl) (pe_meth (pv 0) (c_Numbers T) (m_Numbers_take_within T) (ok_Numbers_take_within T) (hr.mono (by decide)) (b_Numbers_take_within T) .nil pass0 (pa_cons pe_int (pa_cons pe_int pa_nil))))
      (pss_cons (ps_if (pt_cmpR op_eq (pv 2) pe_int (nomark _)) (pss_one (ps_ret (pe_tup (pa_cons pe_str (pa_cons (pe_callTy (k_tupK (K := K)) rfl (gf_tuple T) (by decide +kernel) (pa_cons (pe_lc (own := [("_", 4)]) (g := (gName 4)) (tt := tYes) rfl sc_take_tree.nd (pi_range1 rfl (gf_range T) (pa_cons (pe_meth0 (pv 0) (c_Numbers T) (m_Numbers_take_size T) (ok_Numbers_take_size T) (hr.mono (by decide)) (b_Numbers_take_size T) .nil pass0) pa_nil)) (blkOk_by (own := [("_", 4)]) (N := ["numbers", "left", "kind", "low", "_"]) (sc := defScope s_take_tree) (by decide +kernel)) (fun _ _ _ _ _ => (pg_name (i := 4) sc_take_tree.nd rfl (Or.inl rfl))) (fun _ _ _ _ _ => pts_nil) (fun _ _ _ _ _ => (pe_meth0 (pv 0) (c_Numbers T) (m_Numbers_take_vector T) (ok_Numbers_take_vector T) (hr.mono (by decide)) (b_Numbers_take_vector T) .nil pass0))) pa_nil)) pa_nil))))) pss_nil)
      (pss_cons ps_never
      (pss_cons ps_never
      (pss_one ps_never))))), ?_⟩
    walk_at "n0"
    refine EvS.go ?_
    refine en_asgV (en_within T (lo := 0) (hi := 2) hN (by walk_at "ev") (by walk_at "ev") (by walk_at "ev") hR.hd (by decide) (by decide)) fun H1 e1 n1 => ?_
    walk_at "nf"
    refine z_ifret (b := true) (et_is (by walk_at "et") (by rfl)) (fun _ => ?_) (fun z => by cases z)
    refine en_ret (EvN.weak (en_tupA (A := fun us H3 => ∃ r, us = .str "leaf" :: r ∧ ∃ v r2, r = v :: r2 ∧ TpP 0 (fun _ _ _ => True) v H3 ∧ r2 = []) (ean_v (en_of n1 (ep_of (v := .str "leaf") (by exact ev_c))) fun H2 e2 n2 => ean_cons (j := i + 2) n2 (en_tupOf (K := K) (n := 0) (Pi := fun _ _ _ => True) (fun _ _ _ _ _ _ => trivial) (en_lc (n := 0) (Pi := fun _ _ _ => True) (fun k => i + 2) (ean_1 (en_size T n2 (by walk_at "ev") hR.tl.hd (by decide) (by omega))) (by decide) (fun _ _ _ _ _ _ => trivial) (fun _ => rfl) (fun m H' hm e n => by omega))) (upz_tpP (fun _ _ _ _ _ _ => trivial)) fun v H3 e3 n3 hv => ean_nil n3) ?_ ?_) fun v H3 h => ?_) (k.mono e1)
    · rintro us H1 H2 e ⟨r, rfl, v, r2, rfl, h, rfl⟩
      exact ⟨_, rfl, v, [], rfl, (upz_tpP (K := K) (fun _ _ _ _ _ _ => trivial)).up _ _ _ e h, rfl⟩
    · rintro us H1 ⟨r, rfl, v, r2, rfl, h, rfl⟩
      exact Nat.le_of_ble_eq_true rfl
    · obtain ⟨p, us, rfl, hp, r, rfl, v, r2, rfl, ⟨q, ys, rfl, hq, hy, _⟩, rfl⟩ := h
      have : ys = [] := List.eq_nil_of_length_eq_zero hy
      subst this
      exact ⟨p, q, rfl, st_of hp, st_of hq⟩
def sp_take_whole_tree (K : PySem.W.Frag) : Sp := fun vs H Q _ => ∃ (N : NumD) (i : Nat), vs = [.ref N.p] ∧ NAt K N i H ∧ AtR N.R i [0, 0] ∧ RetN K N (i + 2) (TreeAt K) H Q
theorem ok_take_whole_tree (T : Tx K mg) : FnOk P w K mg base CX0 5 (He.fAd K d_take_whole_tree.at_) (fd_take_whole_tree T) ["numbers"] (sp_take_whole_tree K) := by
  refine (F_take_whole_tree T).ok sc_take_whole_tree (fun vs H Q E h => ?_) (fun cdv A outer s H vs Q E hr h => ?_)
  · obtain ⟨N, i, rfl, _⟩ := h
    rfl
  · obtain ⟨N, i, rfl, hN, hR, k⟩ := h
    refine ⟨_, PSs.nox (pss_one (ps_ret (pe_call (ok_take_tree T) (hr.mono (by decide)) rfl (g_take_tree T) (F_take_tree T).kp (b_take_tree T) .nil pass0 (pa_cons (pv 0) (pa_cons (pe_globI rfl (gi_DEEPEST T)) pa_nil))))), ?_⟩
    walk_at "n0"
    refine EvS.go ?_
    exact en_ret (en_callR (vs := [.ref N.p, .int 20]) hN (by walk_at "ea") fun H2 n2 Q k E => ⟨N, i, 20, rfl, n2, hR, k⟩) k
/-- what comes of the reading -/
def ReadAt (K : PySem.W.Frag) (M : MoverD) : VP := fun v H => ∃ p mv tv, v = .ref p ∧ SqT K H p [mv, tv] ∧ MatterAt K M mv H ∧ TreeAt K tv H
def sp_read_certificate (K : PySem.W.Frag) : Sp := fun vs H Q _ => ∃ (M : MoverD), vs = [.str (certM M)] ∧ WrOk M ∧ MvOk M ∧ Ret (ReadAt K M) H Q
theorem cert_free : 10 ∉ TL.tl certS := by decide +kernel
theorem ok_read_certificate (T : Tx K mg) : FnOk P w K mg base CX0 9 (He.fAd K d_read_certificate.at_) (fd_read_certificate T) ["text"] (sp_read_certificate K) := by
  refine (F_read_certificate T).ok sc_read_certificate (fun vs H Q E h => ?_) (fun cdv A outer s H vs Q E hr h => ?_)
  · obtain ⟨M, rfl, _⟩ := h
    rfl
  · obtain ⟨M, rfl, wo, ok, k⟩ := h
    refine ⟨_, PSs.nox (pss_cons (ps_set (i := 1) sc_read_certificate.nd rfl (Or.inl rfl) (pe_make (M_Numbers T) (ok_Numbers_init T) (hr.mono (by decide)) rfl (g_Numbers T) (b_Numbers_init T) .nil pass0 (pa_cons (pe_globS rfl (gs_CERTIFICATE T)) (pa_cons (pv 0) pa_nil))))
      (pss_cons (ps_try_never (fun _ _ h => h) (pss_one (ps_set (i := 2) sc_read_certificate.nd rfl (Or.inl rfl) (pe_call (ok_take_matter T) (hr.mono (by decide)) rfl (g_take_matter T) (F_take_matter T).kp (b_take_matter T) .nil pass0 (pa_cons (pv 1) pa_nil)))) pss_nil)
      (pss_cons (ps_set (i := 3) sc_read_certificate.nd rfl (Or.inl rfl) (pe_call (ok_take_whole_tree T) (hr.mono (by decide)) rfl (g_take_whole_tree T) (F_take_whole_tree T).kp (b_take_whole_tree T) .nil pass0 (pa_cons (pv 1) pa_nil)))
      (pss_cons (ps_expr (pe_meth0 (pv 1) (c_Numbers T) (m_Numbers_finish T) (ok_Numbers_finish T) (hr.mono (by decide)) (b_Numbers_finish T) .nil pass0))
      (pss_one (ps_ret (pe_tup (pa_cons (pv 2) (pa_cons (pv 3) pa_nil))))))))), ?_⟩
    walk_at "n0"
    refine EvS.go ?_
    have no := matterN_ok wo
    have hne : matterN M ++ [0, 0] ≠ [] := by simp
    refine z_asgP (P := fun v H1 => ∃ (N : NumD), v = .ref N.p ∧ NAt K N 0 H1 ∧ N.R = matterN M ++ [0, 0] ∧ H N.p = none) (ep_make (epa1 (x := .str certS) (by exact ev_c) (epa1 (x := .str (certM M)) (by walk_at "ev") epa_nil)) fun vs H5 e5 a x dx nx nd ne Q k E => ?_) fun v H1 e1 hv => ?_
    · obtain ⟨_, rfl, _, rfl, rfl⟩ := a
      exact ⟨certS, _, x, dx, H5, rfl, made_ex nx nd, nx, upd_same, no, hne, cert_free, cert_len, fun rl H2 e2 n2 => k H2 e2 ⟨⟨x, dx, rl, _⟩, rfl, n2, rfl, fresh_back e5 nx⟩⟩
    obtain ⟨N, rfl, hN, eR, hp⟩ := hv
    have hR : AtR N.R 0 (matterN M ++ [0, 0]) := ⟨[], by rw [eR, List.append_nil] <;> rfl⟩
    have hR2 : AtR N.R (0 + (matterN M).length) [0, 0] := hR.right
    have hlen : N.R.length = 0 + (matterN M).length + 2 := by rw [eR, List.length_append, Nat.zero_add] <;> rfl
    walk_at "nf"
    refine en_thru (en_callR (P := MatterAt K M) (j := 0 + (matterN M).length) (vs := [.ref N.p]) hN (by walk_at "ea") fun H2 n2 Q k E => ⟨N, 0, M, rfl, n2, hR.left, ok, k⟩) fun v H2 e2 n2 hv => ?_
    walk_at "nf"
    refine en_asg (en_callR (P := TreeAt K) (j := 0 + (matterN M).length + 2) (vs := [.ref N.p]) n2 (by walk_at "ea") fun H2 n2 Q k E => ⟨N, _, rfl, n2, hR2, k⟩) fun u H3 e3 n3 hu => ?_
    walk_at "nf"
    have hv3 := z_Matter T _ _ _ _ (n2.ez n3 e3) hv
    have n3 : NAt K N N.R.length H3 := n3.cast hlen.symm
    refine z_dropP (P := fun v _ => v = .non) (ep_meth (by walk_at "ev") n3.1 rfl epa_nil fun vs H4 e4 a Q k E => ?_) fun w H4 e4 _ => ?_
    · subst a
      exact ⟨N, rfl, n3.ex e4, k⟩
    have hex : Ex H H3 := (((Ex.n e1).trans e2).trans e3).ex hp
    refine z_ret (P := ReadAt K M) (EvP.weak (ep_tupV (vs := [v, u]) (by walk_at "ea") (Nat.le_of_ble_eq_true rfl)) fun x H5 e5 h => ?_) (k.mono (hex.trans e4))
    obtain ⟨p, rfl, hp⟩ := h
    exact ⟨p, v, u, rfl, st_of hp, z_Matter T _ _ _ _ (Ex.z (e4.trans e5)) hv3, z_Tree _ _ _ (Ex.z (e4.trans e5)) hu⟩
end
/-! The law's rows, joints, capsules, values. -/
section
variable {K : PySem.W.Frag} {σ : L2.St} {H H' H2 : Hp} {ta tb te tf to : TE} {t : TT} {x y v z : V} {tr : TA} {vs zs xs : List V} {D : Ends} {tu tw tz : TS} {l : Addr} {m : Nat} {b : Bool}
/-- a loop whose list grows in ways that I tells -/
theorem zm_forE {ta : TA} {j : Nat} {n : Int} (hn : H l = none) (h : EvA ta σ H [.int n]) (h0 : 0 ≤ n ∧ n ≤ 100000) (I : Nat → L2.St → List V → Prop) (i0 : I 0 σ xs)
    (hs : ∀ (i : Nat) σ' ys, (i : Int) < n → I i σ' ys → ∀ (N : L2.St → Hp → Prop) (B : L2.St → Hp → Prop), (∀ σ2 zs H1, Ex H H1 → H1 l = some (.lst zs) → I (i + 1) σ2 zs → N σ2 H1) → EvM l ys tu { D with nx := N, ct := N, bk := B } (σ'.set j (some (.int (i : Int)))) H)
    (k : ∀ σ' ys, I n.toNat σ' ys → EvM l ys tz D σ' H) : EvM l xs (tSeq (tFor (iRng1 ta) (gName j) tu) tz) D σ H := fun H1 e hl => by
  refine q_forR1 (h.mono e) h0 (fun i σ' H' => ∃ ys, I i σ' ys ∧ Ex H H' ∧ H' l = some (.lst ys)) (fun H2 e2 => ⟨xs, i0, e.trans e2, e2 l _ hl⟩) (fun i σ' H' hi p => ?_) (fun σ' H' p => ?_)
  · obtain ⟨ys, pi, pe, pl⟩ := p
    exact hs i σ' ys hi pi _ _ (fun σ2 zs H2 e2 hl2 i2 => ⟨zs, i2, e2, hl2⟩) H' pe pl
  · obtain ⟨ys, pi, pe, pl⟩ := p
    exact k σ' ys pi H' pe pl
/-- if t: a = .. (a an int before and behind) -/
theorem zm_cell1 {c0 : Int} (h : EvT t σ H b) (h1 : b = true → ∃ c, Ev te σ H (.int c)) (hs : σ.set m (some (.int c0)) = σ) (k : ∀ c : Int, EvM l xs tz D (σ.set m (some (.int c))) H) : EvM l xs (tSeq (tIfS t (tAsg te (gName m)) tNext) tz) D σ H := fun H1 e hl => h H1 e _ fun H2 e2 => by
  cases b with
  | true =>
    obtain ⟨c, hc⟩ := h1 rfl
    exact hc H2 (e.trans e2) _ fun H3 e3 => k c H3 ((e.trans e2).trans e3) ((e2.trans e3) l _ hl)
  | false =>
    have := k c0 H2 (e.trans e2) (e2 l _ hl)
    rw [hs] at this
    exact this
theorem zm_cell2 {c0 : Int} (h : EvT t σ H b) (h1 : b = true → ∃ c d, Ev te σ H (.int c) ∧ Ev tf (σ.set m (some (.int c))) H (.int d)) (hs : σ.set m (some (.int c0)) = σ) (k : ∀ c : Int, EvM l xs tz D (σ.set m (some (.int c))) H) :
    EvM l xs (tSeq (tIfS t (tSeq (tAsg te (gName m)) (tAsg tf (gName m))) tNext) tz) D σ H := fun H1 e hl => h H1 e _ fun H2 e2 => by
  cases b with
  | true =>
    obtain ⟨c, d, hc, hd⟩ := h1 rfl
    refine hc H2 (e.trans e2) _ fun H3 e3 => hd H3 ((e.trans e2).trans e3) _ fun H4 e4 => ?_
    show tz D ((σ.set m (some (.int c))).set m (some (.int d))) H4
    rw [List.set_set]
    exact k d H4 (((e.trans e2).trans e3).trans e4) (((e2.trans e3).trans e4) l _ hl)
  | false =>
    have := k c0 H2 (e.trans e2) (e2 l _ hl)
    rw [hs] at this
    exact this
theorem z_cellV {v0 v1 : V} (h : EvT t σ H b) (h1 : Ev te σ H v1) (hs : σ.set m (some v0) = σ) (k : EvS tz D (σ.set m (some (if b = true then v1 else v0))) H) : EvS (tSeq (tIfS t (tAsg te (gName m)) tNext) tz) D σ H := fun H1 e => h H1 e _ fun H2 e2 => by
  cases b with
  | true => exact h1 H2 (e.trans e2) _ fun H3 e3 => k H3 ((e.trans e2).trans e3)
  | false =>
    have := k H2 (e.trans e2)
    rw [if_neg (by decide), hs] at this
    exact this
end
section
variable {P : Program} {w : World} {K : PySem.W.Frag} {mg : Str → Option Value} {base : Heap}
def sp_l_rows (K : PySem.W.Frag) : Sp := fun vs H Q _ => ∃ (l : Addr) (xs : List Int), vs = [.ref l, .int 32] ∧ SqL K H l (xs.map V.int) ∧ xs.length ≤ 100000 ∧ Ret (fun v H2 => ∃ R : List Int, R.length = 32 ∧ IsL (R.map V.int) v H2) H Q
theorem ok_l_rows (T : Tx K mg) : FnOk P w K mg base CX0 1 (He.fAd K d_l_rows.at_) (fd_l_rows T) ["_law_script", "_law_count"] (sp_l_rows K) := by
  refine (F_l_rows T).ok sc_l_rows (fun vs H Q E h => ?_) (fun cdv A outer s H vs Q E hr h => ?_)
  · obtain ⟨l, xs, rfl, _⟩ := h
    rfl
  · obtain ⟨l0, xs, rfl, hl0, hz, k⟩ := h
    refine ⟨_, PSs.nox (pss_cons (ps_set (i := 2) sc_l_rows.nd rfl (Or.inl rfl) (pe_lst pa_nil))
      (pss_cons (ps_for PassesOwn.never rfl (pi_range1 rfl (gf_range T) (pa_cons (pv 1) pa_nil)) (pg_name (i := 3) sc_l_rows.nd rfl (Or.inl rfl)) (pss_cons (ps_set (i := 4) sc_l_rows.nd rfl (Or.inl rfl) pe_int)
      (pss_cons (ps_if (pt_cmpR op_gt (pe_callB (k_lenK (K := K)) rfl (gf_len T) PySem.boot_len (pa_cons (pv 0) pa_nil)) pe_int (nomark _)) (pss_one (ps_set (i := 4) sc_l_rows.nd rfl (Or.inl rfl) (pe_callTy k_int1 rfl (gf_int T) (by decide +kernel) (pa_cons (pe_ix (ix_listK (K := K)) (pv 0) (pe_op op_mod (pe_callTy k_int1 rfl (gf_int T) (by decide +kernel) (pa_cons (pv 3) pa_nil)) (pe_callB (k_lenK (K := K)) rfl (gf_len T) PySem.boot_len (pa_cons (pv 0) pa_nil))) (fun _ _ => rfl)) pa_nil)))) pss_nil)
      (pss_cons (ps_if (pt_cmpR op_lt (pv 4) pe_int (nomark _)) (pss_one (ps_set (i := 4) sc_l_rows.nd rfl (Or.inl rfl) (pe_op op_sub pe_int (pe_op op_mul pe_int (pv 4))))) pss_nil)
      (pss_cons (ps_if (PW.pt (pw_or (pt_cmpR op_ge (pv 3) (pe_callB (k_lenK (K := K)) rfl (gf_len T) PySem.boot_len (pa_cons (pv 0) pa_nil)) (nomark _)) (pw_or1 (pt_cmpR op_lt (pv 4) pe_int (nomark _))))) (pss_cons (ps_set (i := 4) sc_l_rows.nd rfl (Or.inl rfl) (pe_op op_mod (pe_callTy k_int1 rfl (gf_int T) (by decide +kernel) (pa_cons (pe_op op_add (pe_op op_mul (pe_op op_add (pe_op op_add (pv 4) (pe_op op_mul pe_int (pv 3))) pe_int) pe_int) (pe_op op_mul (pe_op op_mul (pv 3) (pv 3)) pe_int)) pa_nil)) pe_int))
      (pss_one (ps_set (i := 4) sc_l_rows.nd rfl (Or.inl rfl) (pe_op op_mod (pe_callTy k_int1 rfl (gf_int T) (by decide +kernel) (pa_cons (pe_op op_mul (pe_op op_add (pe_op op_add (pv 4) (pe_op op_mul pe_int (pv 3))) pe_int) pe_int) pa_nil)) pe_int)))) pss_nil)
      (pss_one (ps_expr (pe_bmK (K := K) PySem.F.plainAttrs_list PySem.F.slot_list_append PySem.F.type_list_append mt_append (pv 2) (pa_cons (pv 4) pa_nil)))))))))
      (pss_one (ps_ret (pv 2))))), ?_⟩
    walk_at "n0"
    refine EvS.go ?_
    refine zm_new (by walk_at "ea") (Nat.le_of_ble_eq_true rfl) fun l hn => ?_
    walk_at "nf"
    refine zm_forE (n := 32) hn (by walk_at "ea") (by decide) (fun i σ' ys => (∃ x3 x4, σ' = [some (.ref l0), some (.int 32), some (.ref l), x3, x4]) ∧ ∃ R : List Int, ys = R.map V.int ∧ R.length = i) ⟨⟨none, none, rfl⟩, [], rfl, rfl⟩ (fun i σ' ys hi p N B hN => ?_) (fun σ' ys p => ?_)
    · obtain ⟨⟨x3, x4, rfl⟩, R, rfl, hR⟩ := p
      walk_at "nf"
      refine zm_asg (v := .int 0) (by walk_at "ev") ?_
      walk_at "nf"
      have hlen : (xs.map V.int).length = xs.length := List.length_map ..
      refine zm_cell1 (c0 := 0) (et_is (by walk_at "et") rfl) (fun hb => ?_) rfl fun c => ?_
      · have hb := of_decide_eq_true hb
        rw [hlen] at hb
        have hpos : (0 : Int) < ((xs.map V.int).length : Int) := by omega
        obtain ⟨m1, m2⟩ := mod_in (a := (i : Int)) hpos
        have h3 : ((i : Int) % ((xs.map V.int).length : Int)).toNat < xs.length := by omega
        have h4 := ints_at (ns := xs) h3
        rw [Int.toNat_of_nonneg m1] at h4
        exact ⟨_, ev_cb (ea_cons (ev_op (by walk_at "ev") (ev_op (by walk_at "ev") (by walk_at "ev") (rv_mod hpos)) (rv_ixL hl0 h4)) ea_nil) rc_int⟩
      walk_at "nf"
      refine zm_cell1 (c0 := c) (et_is (by walk_at "et") rfl) (fun hb => ⟨_, by walk_at "ev"⟩) rfl fun c => ?_
      walk_at "nf"
      refine zm_cell2 (c0 := c) (et_is (by walk_at "et") rfl) (fun hb => ⟨_, _, by walk_at "ev", by walk_at "nf"; walk_at "ev"⟩) rfl fun c => ?_
      walk_at "nf"
      refine sm_app (v := .int c) hn (by walk_at "ev") (by walk_at "ev") (by rw [List.length_map]; omega) fun H1 e hl1 => hN _ _ H1 e hl1 ⟨⟨_, _, rfl⟩, R ++ [c], ?_, ?_⟩
      · rw [List.map_append] <;> rfl
      · rw [List.length_append, hR] <;> rfl
    · obtain ⟨⟨x3, x4, rfl⟩, R, rfl, hR⟩ := p
      walk_at "nf"
      exact zm_ret (by walk_at "ev") fun H1 e hl1 => k _ H1 e ⟨R, hR, l, rfl, hl1⟩
/-! joints -/
theorem lawJoint_valid {row err : Int} (h0 : 0 ≤ err) (h1 : err < 900) : JValid (lawJoint row err) := by
  obtain ⟨a1, a2⟩ := mod_in (a := row / 3) (m := 3) (by decide)
  obtain ⟨b1, b2⟩ := mod_in (a := row / 9) (m := 41) (by decide)
  obtain ⟨c1, c2⟩ := mod_in (a := row / 369) (m := 41) (by decide)
  obtain ⟨d1, d2⟩ := mod_in (a := row / 15129) (m := 201) (by decide)
  obtain ⟨e1, e2⟩ := mod_in (a := row / 3041) (m := 3) (by decide)
  obtain ⟨f1, f2⟩ := mod_in (a := err) (m := 7) (by decide)
  have hfar : I3.far ⟨row / 9 % 41 - 20, row / 369 % 41 - 20, row / 15129 % 201 - 100⟩ ≤ 10000000 := by
    unfold I3.far max2 absI
    dsimp only
    repeat' split
    all_goals omega
  unfold lawJoint
  by_cases ht : row % 3 > 0
  · have hd : decide (row % 3 > 0) = true := decide_eq_true ht
    constructor <;> dsimp only <;> (try rw [hd]) <;> first | exact hfar | (simp; done) | (simp; omega) | omega
  · have hd : decide (row % 3 > 0) = false := decide_eq_false ht
    constructor <;> dsimp only <;> (try rw [hd]) <;> first | exact hfar | (simp; done) | (simp; omega) | omega
def sp_l_joint (K : PySem.W.Frag) : Sp := fun vs H Q _ => ∃ (row err : Int), vs = [.int row, .int err] ∧ 0 ≤ err ∧ err < 900 ∧ Ret (JointAt K (lawJoint row err)) H Q
theorem ok_l_joint (T : Tx K mg) : FnOk P w K mg base CX0 4 (He.fAd K d_l_joint.at_) (fd_l_joint T) ["_law_row", "_law_error"] (sp_l_joint K) := by
  refine (F_l_joint T).ok sc_l_joint (fun vs H Q E h => ?_) (fun cdv A outer s H vs Q E hr h => ?_)
  · obtain ⟨row, err, rfl, _⟩ := h
    rfl
  · obtain ⟨row, err, rfl, h0, h1, k⟩ := h
    have jv := lawJoint_valid (row := row) h0 h1
    obtain ⟨a1, a2⟩ := mod_in (a := row / 3) (m := 3) (by decide)
    refine ⟨_, PSs.nox (pss_cons (ps_set (i := 2) sc_l_joint.nd rfl (Or.inl rfl) (pe_cmpR op_gt (pe_op op_mod (pe_callTy k_int1 rfl (gf_int T) (by decide +kernel) (pa_cons (pv 0) pa_nil)) pe_int) pe_int (nomark _)))
      (pss_cons (ps_set (i := 3) sc_l_joint.nd rfl (Or.inl rfl) (pe_op op_mod (pe_callTy k_int1 rfl (gf_int T) (by decide +kernel) (pa_cons (pe_op op_fdiv (pv 0) pe_int) pa_nil)) pe_int))
      (pss_cons (ps_set (i := 4) sc_l_joint.nd rfl (Or.inl rfl) (pe_tup (pa_cons (pe_op op_sub (pe_op op_mod (pe_callTy k_int1 rfl (gf_int T) (by decide +kernel) (pa_cons (pe_op op_fdiv (pv 0) pe_int) pa_nil)) pe_int) pe_int) (pa_cons (pe_op op_sub (pe_op op_mod (pe_callTy k_int1 rfl (gf_int T) (by decide +kernel) (pa_cons (pe_op op_fdiv (pv 0) pe_int) pa_nil)) pe_int) pe_int) (pa_cons (pe_op op_sub (pe_op op_mod (pe_callTy k_int1 rfl (gf_int T) (by decide +kernel) (pa_cons (pe_op op_fdiv (pv 0) pe_int) pa_nil)) pe_int) pe_int) pa_nil)))))
      (pss_cons (ps_set (i := 5) sc_l_joint.nd rfl (Or.inl rfl) (pe_ifExp (pt_val (pv 2)) pe_int pe_int))
      (pss_cons (ps_set (i := 6) sc_l_joint.nd rfl (Or.inl rfl) (pv 1))
      (pss_cons (ps_if (pt_not (pt_val (pv 2))) (pss_one (ps_set (i := 6) sc_l_joint.nd rfl (Or.inl rfl) (pe_op op_mod (pe_callTy k_int1 rfl (gf_int T) (by decide +kernel) (pa_cons (pv 1) pa_nil)) pe_int))) pss_nil)
      (pss_one (ps_ret (pe_makeK (M_Joint T) (ok_Joint_init T) (hr.mono (by decide)) rfl (g_Joint T) (kb_Joint_init_2 T).choose_spec pass0 (pa_cons (pv 2) (pa_cons (pv 3) (pa_cons (pv 4) (pa_cons (pe_un un_neg (pv 5)) (pa_cons (pv 5) pa_nil))))) (pk_cons (pe_op op_mod (pe_callTy k_int1 rfl (gf_int T) (by decide +kernel) (pa_cons (pe_op op_fdiv (pv 0) pe_int) pa_nil)) pe_int) (pk_cons (pv 6) pk_nil))))))))))), ?_⟩
    walk_at "n0"
    refine EvS.go ?_
    refine z_asg (v := .bl (lawJoint row err).turns) (ev_is (by walk_at "ev") (by rfl)) ?_
    walk_at "nf"
    refine z_asg (v := .int ((lawJoint row err).axis : Int)) (ev_is (by walk_at "ev") (congrArg V.int (Int.toNat_of_nonneg a1).symm)) ?_
    walk_at "nf"
    refine z_asgP (P := IsT (lawJoint row err).offset.vs) (ep_tupV (vs := [.int (row / 9 % 41 - 20), .int (row / 369 % 41 - 20), .int (row / 15129 % 201 - 100)]) (by walk_at "ea") (Nat.le_of_ble_eq_true rfl)) fun v H1 e1 hv => ?_
    obtain ⟨o, rfl, ho⟩ := hv
    walk_at "nf"
    refine z_asg (v := .int (lawJoint row err).most) (ev_is (by walk_at "ev") ?_) ?_
    · show _ = V.int (if decide (row % 3 > 0) = true then 2000000 else 300)
      rw [ite_int] <;> rfl
    walk_at "nf"
    refine z_asg (v := .int err) (by walk_at "ev") ?_
    walk_at "nf"
    refine z_cellV (v0 := .int err) (b := !(lawJoint row err).turns) (by walk_at "et") (by walk_at "ev") rfl ?_
    have el : (if (!(lawJoint row err).turns) = true then V.int (err % 7) else V.int err) = .int (lawJoint row err).error := by
      show (if (!decide (row % 3 > 0)) = true then V.int (err % 7) else V.int err) = V.int (if decide (row % 3 > 0) = true then err else err % 7)
      cases decide (row % 3 > 0) <;> rfl
    rw [el]
    walk_at "nf"
    have ho : SqT K H1 o (lawJoint row err).offset.vs := st_of ho
    have eb : row / 3041 % 3 = (lawJoint row err).box := rfl
    have em : -(lawJoint row err).most = (lawJoint row err).least := rfl
    generalize lawJoint row err = jd at *
    refine z_ret (ep_makeK (P := JointAt K jd) (vs := [.bl jd.turns, .int (jd.axis : Int), .ref o, .int (-jd.most), .int jd.most]) (zs := [.int (row / 3041 % 3), .int jd.error]) (by walk_at "ea") (by walk_at "ea") rfl rfl fun H6 e6 x dx nx nd ne Q k E => ?_) (k.mono e1)
    rw [eb, em]
    exact ⟨jd, o, x, dx, H6, rfl, made_ex nx nd, nx, upd_same, ex_t e6 ho, jv, k⟩
theorem ep_ljoint (T : Tx K mg) {σ : L2.St} {H : Hp} {ta tb : TE} {row err : Int} {E : XK} (ha : Ev ta σ H (.int row)) (hb : Ev tb σ H (.int err)) (h0 : 0 ≤ err) (h1 : err < 900) : EvP (tCall (sp_l_joint K) [] E (tCons ta (tCons tb tNil))) σ H (JointAt K (lawJoint row err)) :=
  ep_call (vs := [.int row, .int err]) (ea_cons ha (ea_cons hb ea_nil)) fun H1 e Q k E => ⟨row, err, rfl, h0, h1, k⟩
/-! capsules -/
theorem lawBody_valid (row : Int) : BValid (lawBody row) := by
  obtain ⟨a1, a2⟩ := mod_in (a := row) (m := 61) (by decide)
  obtain ⟨b1, b2⟩ := mod_in (a := row / 61) (m := 61) (by decide)
  obtain ⟨c1, c2⟩ := mod_in (a := row / 3721) (m := 121) (by decide)
  obtain ⟨d1, d2⟩ := mod_in (a := row / 450241) (m := 61) (by decide)
  obtain ⟨e1, e2⟩ := mod_in (a := row / 7) (m := 61) (by decide)
  obtain ⟨f1, f2⟩ := mod_in (a := row / 13) (m := 121) (by decide)
  obtain ⟨g1, g2⟩ := mod_in (a := row / 11) (m := 12) (by decide)
  unfold lawBody
  constructor
  · unfold I3.far max2 absI
    dsimp only
    repeat' split
    all_goals omega
  · unfold I3.far max2 absI
    dsimp only
    repeat' split
    all_goals omega
  · exact g1
  · dsimp only
    omega
def sp_l_capsule (K : PySem.W.Frag) : Sp := fun vs H Q _ => ∃ (row : Int) (links : Nat), vs = [.int row, .int (links : Int)] ∧ Ret (CapAt K (lawLink row links, lawBody row)) H Q
theorem ok_l_capsule (T : Tx K mg) : FnOk P w K mg base CX0 4 (He.fAd K d_l_capsule.at_) (fd_l_capsule T) ["_law_row", "_law_links"] (sp_l_capsule K) := by
  refine (F_l_capsule T).ok sc_l_capsule (fun vs H Q E h => ?_) (fun cdv A outer s H vs Q E hr h => ?_)
  · obtain ⟨row, links, rfl, _⟩ := h
    rfl
  · obtain ⟨row, links, rfl, k⟩ := h
    have bv := lawBody_valid row
    have hm : (0 : Int) < (links : Int) + 1 := by omega
    obtain ⟨a1, a2⟩ := mod_in (a := row / 97) hm
    refine ⟨_, PSs.nox (pss_cons (ps_set (i := 2) sc_l_capsule.nd rfl (Or.inl rfl) (pe_tup (pa_cons (pe_op op_sub (pe_op op_mod (pe_callTy k_int1 rfl (gf_int T) (by decide +kernel) (pa_cons (pv 0) pa_nil)) pe_int) pe_int) (pa_cons (pe_op op_sub (pe_op op_mod (pe_callTy k_int1 rfl (gf_int T) (by decide +kernel) (pa_cons (pe_op op_fdiv (pv 0) pe_int) pa_nil)) pe_int) pe_int) (pa_cons (pe_op op_sub (pe_op op_mod (pe_callTy k_int1 rfl (gf_int T) (by decide +kernel) (pa_cons (pe_op op_fdiv (pv 0) pe_int) pa_nil)) pe_int) pe_int) pa_nil)))))
      (pss_cons (ps_set (i := 3) sc_l_capsule.nd rfl (Or.inl rfl) (pe_tup (pa_cons (pe_op op_sub (pe_op op_mod (pe_callTy k_int1 rfl (gf_int T) (by decide +kernel) (pa_cons (pe_op op_fdiv (pv 0) pe_int) pa_nil)) pe_int) pe_int) (pa_cons (pe_op op_sub (pe_op op_mod (pe_callTy k_int1 rfl (gf_int T) (by decide +kernel) (pa_cons (pe_op op_fdiv (pv 0) pe_int) pa_nil)) pe_int) pe_int) (pa_cons (pe_op op_sub (pe_op op_mod (pe_callTy k_int1 rfl (gf_int T) (by decide +kernel) (pa_cons (pe_op op_fdiv (pv 0) pe_int) pa_nil)) pe_int) pe_int) pa_nil)))))
      (pss_one (ps_ret (pe_make (M_Capsule T) (ok_Capsule_init T) (hr.mono (by decide)) rfl (g_Capsule T) (b_Capsule_init T) .nil pass0 (pa_cons (pe_op op_mod (pe_callTy k_int1 rfl (gf_int T) (by decide +kernel) (pa_cons (pe_op op_fdiv (pv 0) pe_int) pa_nil)) (pe_op op_add (pv 1) pe_int)) (pa_cons (pe_make (M_Body T) (ok_Body_init T) (hr.mono (by decide)) rfl (g_Body T) (b_Body_init T) .nil pass0 (pa_cons (pv 2) (pa_cons (pv 3) (pa_cons (pe_op op_mod (pe_callTy k_int1 rfl (gf_int T) (by decide +kernel) (pa_cons (pe_op op_fdiv (pv 0) pe_int) pa_nil)) pe_int) pa_nil)))) pa_nil))))))), ?_⟩
    walk_at "n0"
    refine EvS.go ?_
    refine z_asgP (P := IsT (lawBody row).first.vs) (ep_tupV (vs := [.int (row % 61 - 30), .int (row / 61 % 61 - 30), .int (row / 3721 % 121 - 60)]) (by walk_at "ea") (Nat.le_of_ble_eq_true rfl)) fun v H1 e1 hv => ?_
    obtain ⟨o1, rfl, h1⟩ := hv
    walk_at "nf"
    refine z_asgP (P := IsT (lawBody row).last.vs) (ep_tupV (vs := [.int (row / 450241 % 61 - 30), .int (row / 7 % 61 - 30), .int (row / 13 % 121 - 60)]) (by walk_at "ea") (Nat.le_of_ble_eq_true rfl)) fun v H2 e2 hv => ?_
    obtain ⟨o2, rfl, h2⟩ := hv
    walk_at "nf"
    have h1 : SqT K H2 o1 (lawBody row).first.vs := st_of (e2 _ _ h1)
    have h2 : SqT K H2 o2 (lawBody row).last.vs := st_of h2
    refine z_ret (ep_make (P := CapAt K (lawLink row links, lawBody row)) (epa1 (x := .int (lawLink row links : Int)) (ev_is (by walk_at "ev") (congrArg V.int (Int.toNat_of_nonneg a1).symm)) (epaP (P := BodyAt K (lawBody row)) (ep_make (epa1 (x := .ref o1) (by walk_at "ev") (epa1 (x := .ref o2) (by walk_at "ev") (epa1 (x := .int (lawBody row).radius) (ev_is (by walk_at "ev") (by rfl)) epa_nil))) fun vs H5 e5 a x dx nx nd ne Q k E => ?_) (z_Body T _).up epa_nil)) fun vs H5 e5 a x dx nx nd ne Q k E => ?_) (k.mono (e1.trans e2))
    · obtain ⟨_, rfl, _, rfl, _, rfl, rfl⟩ := a
      exact ⟨lawBody row, o1, o2, x, dx, H5, rfl, made_ex nx nd, nx, upd_same, ex_t e5 h1, ex_t e5 h2, bv, k⟩
    · obtain ⟨_, rfl, bv, _, rfl, hb, rfl⟩ := a
      exact ⟨(lawLink row links, lawBody row), bv, x, dx, H5, rfl, made_ex nx nd, nx, upd_same, hb, k⟩
theorem ep_lcapsule (T : Tx K mg) {σ : L2.St} {H : Hp} {ta tb : TE} {row : Int} {links : Nat} {E : XK} (ha : Ev ta σ H (.int row)) (hb : Ev tb σ H (.int (links : Int))) : EvP (tCall (sp_l_capsule K) [] E (tCons ta (tCons tb tNil))) σ H (CapAt K (lawLink row links, lawBody row)) :=
  ep_call (vs := [.int row, .int (links : Int)]) (ea_cons ha (ea_cons hb ea_nil)) fun H1 e Q k E => ⟨row, links, rfl, k⟩
/-! values -/
def sp_l_values (K : PySem.W.Frag) : Sp := fun vs H Q _ => ∃ (tj : Addr) (js : List JointD) (row : Int), vs = [.ref tj, .int row] ∧ RTp K js.length (fun i => JointAt K (js.getD i default)) tj H ∧ js.length ≤ 6 ∧ (∀ k, k < js.length → (js.getD k default).least ≤ (js.getD k default).most) ∧ Ret (IsL ((lawValues js row).map V.int)) H Q
theorem ok_l_values (T : Tx K mg) : FnOk P w K mg base CX0 1 (He.fAd K d_l_values.at_) (fd_l_values T) ["_law_joints", "_law_row"] (sp_l_values K) := by
  refine (F_l_values T).ok sc_l_values (fun vs H Q E h => ?_) (fun cdv A outer s H vs Q E hr h => ?_)
  · obtain ⟨tj, js, row, rfl, _⟩ := h
    rfl
  · obtain ⟨tj, js, row, rfl, hj, j6, lm, k⟩ := h
    obtain ⟨yj, j1, j2, j3⟩ := id hj
    refine ⟨_, PSs.nox (pss_cons (ps_set (i := 2) sc_l_values.nd rfl (Or.inl rfl) (pe_lst pa_nil))
      (pss_cons (ps_for PassesOwn.never rfl (pi_range1 rfl (gf_range T) (pa_cons (pe_callB (k_lenK (K := K)) rfl (gf_len T) PySem.boot_len (pa_cons (pv 0) pa_nil)) pa_nil)) (pg_name (i := 3) sc_l_values.nd rfl (Or.inl rfl)) (pss_cons (ps_set (i := 4) sc_l_values.nd rfl (Or.inl rfl) (pe_op op_add (pe_op op_sub (pe_fldK (K := K) (pe_ix (ix_tupK (K := K)) (pv 0) (pv 3) (fun _ _ => rfl)) rfl) (pe_fldK (K := K) (pe_ix (ix_tupK (K := K)) (pv 0) (pv 3) (fun _ _ => rfl)) rfl)) pe_int))
      (pss_one (ps_expr (pe_bmK (K := K) PySem.F.plainAttrs_list PySem.F.slot_list_append PySem.F.type_list_append mt_append (pv 2) (pa_cons (pe_op op_add (pe_fldK (K := K) (pe_ix (ix_tupK (K := K)) (pv 0) (pv 3) (fun _ _ => rfl)) rfl) (pe_op op_mod (pe_callTy k_int1 rfl (gf_int T) (by decide +kernel) (pa_cons (pe_op op_add (pe_op op_fdiv (pv 1) (pe_op op_add (pv 3) pe_int)) (pe_op op_mul (pe_op op_fdiv (pv 1) pe_int) (pe_op op_add (pv 3) pe_int))) pa_nil)) (pv 4))) pa_nil))))))
      (pss_one (ps_ret (pv 2))))), ?_⟩
    walk_at "n0"
    refine EvS.go ?_
    refine zm_new (by walk_at "ea") (Nat.le_of_ble_eq_true rfl) fun l hn => ?_
    walk_at "nf"
    refine zm_forE (n := (yj.length : Int)) hn (by walk_at "ea") (by omega) (fun i σ' ys => (∃ x3 x4, σ' = [some (.ref tj), some (.int row), some (.ref l), x3, x4]) ∧ ys = ((List.range i).map fun k : Nat => (js.getD k default).least + (row / ((k : Int) + 1) + row / 1000003 * ((k : Int) + 3)) % ((js.getD k default).most - (js.getD k default).least + 1)).map V.int) ⟨⟨none, none, rfl⟩, rfl⟩ (fun i σ' ys hi p N B hN => ?_) (fun σ' ys p => ?_)
    · obtain ⟨⟨x3, x4, rfl⟩, rfl⟩ := p
      have hi2 : i < js.length := by omega
      have hlm := lm i hi2
      obtain ⟨y2, jv, q1, q2, q3⟩ := hj.at (k := i) hi2
      have q3 : JointAt K (js.getD i default) jv H := q3
      have hfn : ∀ g : JointD, g = js.getD i default → g.least + (row / ((i : Int) + 1) + row / 1000003 * ((i : Int) + 3)) % (g.most - g.least + 1) = (js.getD i default).least + (row / ((i : Int) + 1) + row / 1000003 * ((i : Int) + 3)) % ((js.getD i default).most - (js.getD i default).least + 1) := fun g e => by rw [e]
      generalize hg : js.getD i default = jd at q3 hlm
      have hfn := hfn jd hg.symm
      have hpos : 0 < jd.most - jd.least + 1 := by omega
      walk_at "nf"
      refine zm_asg (by walk_at "ev") ?_
      walk_at "nf"
      refine sm_app (v := .int (jd.least + (row / ((i : Int) + 1) + row / 1000003 * ((i : Int) + 3)) % (jd.most - jd.least + 1))) hn (by walk_at "ev") (by walk_at "ev") (by rw [List.length_map, List.length_map, List.length_range]; omega) fun H1 e hl1 => hN _ _ H1 e hl1 ⟨⟨_, _, rfl⟩, ?_⟩
      rw [range_snoc, List.map_append, hfn] <;> rfl
    · obtain ⟨⟨x3, x4, rfl⟩, rfl⟩ := p
      have en : ((yj.length : Int)).toNat = js.length := by omega
      rw [en]
      walk_at "nf"
      exact zm_retL (by walk_at "ev") k
end
/-! The law's own true places. -/
section
variable {K : PySem.W.Frag} {σ : L2.St} {H H' H2 : Hp} {ta tb te tf to tl : TE} {t : TT} {x y v z : V} {tr : TA} {vs ws xs : List V} {D : Ends} {tu tw tz : TS} {l : Addr} {m : Nat} {b : Bool} {P P' : VP}
theorem EvM.go {ts : TS} (h : EvM l xs ts D σ H) (e : Ex H H2) (hl : H2 l = some (.lst xs)) : ts D σ H2 := h H2 e hl
theorem EvF.weak (h : EvF te σ H P) (i : ∀ v H1, Ex H H1 → P v H1 → P' v H1) : EvF te σ H P' := fun H1 e Q q => h H1 e Q fun p H2 hn e2 hp => q p H2 hn e2 (i _ _ (e.trans e2) hp)
theorem ef_lcL {a : Addr} {xs : List V} {vs : List Nat} {g : TG} {Pi : Nat → VP} (h : Ev tl σ H (.ref a)) (hx : SqL K H a xs) (hz : xs.length ≤ 40000) (hP : ∀ i, UpZ K (Pi i)) (σ2 : Nat → V → L2.St)
    (hg : ∀ (i : Nat) x H1 (R : L2.St → Hp → Prop), xs[i]? = some x → Ex H H1 → R (σ2 i x) H1 → g x (wipe σ vs) H1 R) (hw : ∀ (i : Nat) x, xs[i]? = some x → wipe (σ2 i x) vs = wipe σ vs)
    (he : ∀ (i : Nat) x, xs[i]? = some x → EvP te (σ2 i x) H (Pi i)) : EvF (tLc (iList K tl) g tYes te vs) σ H (LsP xs.length Pi) := fun H0 e Q q => h H0 e _ fun H1 e1 => ⟨a, rfl, ⟨xs, ex_l (e.trans e1) hx⟩, fun D hD =>
  lc_list (xs := xs) (LcW H1 D Pi) ⟨hD, Ex.new hD, [], upd_same, rfl, fun j y z => by simp at z⟩ (fun i H' _ p => ex_l ((e.trans e1).trans p.2.1) hx)
    (fun i x H' hi p => hg i x H' _ hi ((e.trans e1).trans p.2.1) ⟨hw i x hi, lcw_turn p (e.trans e1) (by have := (List.getElem?_eq_some_iff.mp hi).1; omega) (he i x hi) hP⟩)
    (fun H' p => by
      obtain ⟨p1, p2, ys, p3, p4, p5⟩ := p
      exact q D H' (fresh_back e1 p1) (e1.trans p2) ⟨D, ys, rfl, p3, p4, p5⟩)⟩
theorem ef_lcLi {a : Addr} {ns : List Int} {j : Nat} {js : List Nat} (f : Int → V) (h : Ev tl σ H (.ref a)) (hx : SqL K H a (ns.map V.int)) (hz : ns.length ≤ 40000) (hw : ∀ x, wipe ((wipe σ js).set j (some x)) js = wipe σ js)
    (he : ∀ n, n ∈ ns → Ev te ((wipe σ js).set j (some (.int n))) H (f n)) : EvF (tLc (iList K tl) (gName j) tYes te js) σ H (IsL (ns.map f)) := by
  have q := ef_lcL (g := gName j) (te := te) (Pi := fun i v _ => v = f (ns.getD i 0)) h hx (by rw [List.length_map]; exact hz) (fun _ => upz_val) (fun _ x => (wipe σ js).set j (some x)) (fun i x H1 R _ _ r => r) (fun i x _ => hw x) (fun i x hi => by
    obtain ⟨n, hn, rfl⟩ := mapint_get hi
    have e : ns.getD i 0 = n := by rw [List.getD_eq_getElem?_getD, hn]; rfl
    rw [e]
    exact ep_of (he n (List.mem_of_getElem? hn)))
  refine q.weak fun v H1 _ p => ?_
  have p2 := p.vals
  rw [range_map_get] at p2
  exact p2
/-- l[j] = .. as the last -/
theorem sm_set {j : Nat} {r : TE} (hn : H l = none) (h : ∀ H1, Ex H H1 → H1 l = some (.lst xs) → Ev te σ H1 v) (ho : Ev ta σ H (.ref l)) (hi : Ev tb σ H (.int (j : Int))) (hj : j < xs.length) (k : ∀ H1, Ex H H1 → H1 l = some (.lst (xs.set j v)) → D.nx σ H1) :
    EvM l xs (tAsg te (gSub ta tb rSetL)) D σ H := fun H1 e hl =>
  h H1 e hl H1 (Ex.refl H1) _ fun H2 e2 => ho H2 (e.trans e2) _ fun H3 e3 => hi H3 ((e.trans e2).trans e3) _ fun H4 e4 =>
    ⟨l, xs, (j : Int), j, rfl, rfl, ((e2.trans e3).trans e4) l _ hl, ixN_nat hj, k _ (Ex.mut (((e.trans e2).trans e3).trans e4) hn) upd_same⟩
/-- an if whose two ways end alike -/
theorem z_iffP (h : EvT t σ H b) (Pm : L2.St → Hp → Prop) (h1 : b = true → ∀ N, (∀ σ' H', Pm σ' H' → N σ' H') → EvS tu { D with nx := N } σ H) (h2 : b = false → ∀ N, (∀ σ' H', Pm σ' H' → N σ' H') → EvS tw { D with nx := N } σ H)
    (k : ∀ σ' H', Pm σ' H' → tz D σ' H') : EvS (tSeq (tIfS t tu tw) tz) D σ H := z_iff h (fun q => h1 q _ k) (fun q => h2 q _ k)
/-- list + list -/
theorem ep_cat (ha : EvP ta σ H (IsL vs)) (hb : EvP tb σ H (IsL ws)) (hl : vs.length + ws.length ≤ 100000) : EvP (tOp rCat ta tb) σ H (IsL (vs ++ ws)) := fun H1 e Q q =>
  ha H1 e _ fun v H2 e2 hv => hb H2 (e.trans e2) _ fun u H3 e3 hu => by
    obtain ⟨p, rfl, hp⟩ := hv
    obtain ⟨r, rfl, hr⟩ := hu
    exact ⟨p, r, vs, ws, rfl, rfl, e3 _ _ hp, hr, sz_of hl, fun s hs => q _ _ ((e2.trans e3).trans (Ex.new hs)) ⟨s, rfl, upd_same⟩⟩
end
section
variable {P : Program} {w : World} {K : PySem.W.Frag} {mg : Str → Option Value} {base : Heap}
def sp_l_turned (K : PySem.W.Frag) : Sp := fun vs H Q _ => ∃ (a b : Addr) (p : P4) (ax n : Nat) (over under : Int), vs = [.ref a, .int (ax : Int), .ref b] ∧ SqL K H a p.vs ∧ SqT K H b [.int over, .int under] ∧ ax < 3 ∧ Bp n p ∧ n ≤ 3000 ∧ Bz 40 over ∧ Bz 20 under ∧
  Ret (IsL (turnedM p ax over (under * 1000000)).vs) H Q
theorem ok_l_turned (T : Tx K mg) : FnOk P w K mg base CX0 1 (He.fAd K d_l_turned.at_) (fd_l_turned T) ["_law_place", "_law_axis", "_law_value"] (sp_l_turned K) := by
  refine (F_l_turned T).ok sc_l_turned (fun vs H Q E h => ?_) (fun cdv A outer s H vs Q E hr h => ?_)
  · obtain ⟨a, b, p, ax, n, over, under, rfl, _⟩ := h
    rfl
  · obtain ⟨a, b, p, ax, n, over, under, rfl, ha, hb, hx, ⟨b1, b2, b3, b4⟩, hn3, ho, hu, k⟩ := h
    unfold P4.vs at ha
    refine ⟨_, PSs.nox (pss_cons (ps_set (i := 3) sc_l_turned.nd rfl (Or.inl rfl) (pe_ix (ix_tupK (K := K)) (pv 2) pe_int (fun _ _ => rfl)))
      (pss_cons (ps_set (i := 4) sc_l_turned.nd rfl (Or.inl rfl) (pe_op op_mulW (pe_ix (ix_tupK (K := K)) (pv 2) pe_int (fun _ _ => rfl)) pe_int))
      (pss_cons (ps_set (i := 5) sc_l_turned.nd rfl (Or.inl rfl) (pe_op op_mod (pe_op op_add (pv 1) pe_int) pe_int))
      (pss_cons (ps_set (i := 6) sc_l_turned.nd rfl (Or.inl rfl) (pe_op op_mod (pe_op op_add (pv 1) pe_int) pe_int))
      (pss_cons (ps_set (i := 7) sc_l_turned.nd rfl (Or.inl rfl) (pe_op op_sub (pe_op op_mulW (pv 4) (pv 4)) (pe_op op_mulW (pv 3) (pv 3))))
      (pss_cons (ps_set (i := 8) sc_l_turned.nd rfl (Or.inl rfl) (pe_op op_mulW (pe_op op_mulW pe_int (pv 3)) (pv 4)))
      (pss_cons (ps_set (i := 9) sc_l_turned.nd rfl (Or.inl rfl) (pe_op op_add (pe_op op_mulW (pv 4) (pv 4)) (pe_op op_mulW (pv 3) (pv 3))))
      (pss_cons (ps_set (i := 10) sc_l_turned.nd rfl (Or.inl rfl) (pe_lst (pa_cons (pe_op op_mulW (pe_ix (ix_listK (K := K)) (pv 0) pe_int (fun _ _ => rfl)) (pv 9)) (pa_cons (pe_op op_mulW (pe_ix (ix_listK (K := K)) (pv 0) pe_int (fun _ _ => rfl)) (pv 9)) (pa_cons (pe_op op_mulW (pe_ix (ix_listK (K := K)) (pv 0) pe_int (fun _ _ => rfl)) (pv 9)) (pa_cons (pe_op op_mulW (pe_ix (ix_listK (K := K)) (pv 0) pe_int (fun _ _ => rfl)) (pv 9)) pa_nil))))))
      (pss_cons (ps_asg (pe_op op_sub (pe_op op_mulW (pe_ix (ix_listK (K := K)) (pv 0) (pv 5) (fun _ _ => rfl)) (pv 7)) (pe_op op_mulW (pe_ix (ix_listK (K := K)) (pv 0) (pv 6) (fun _ _ => rfl)) (pv 8))) (pg_sub (pv 10) (pv 5) set_list))
      (pss_cons (ps_asg (pe_op op_add (pe_op op_mulW (pe_ix (ix_listK (K := K)) (pv 0) (pv 5) (fun _ _ => rfl)) (pv 8)) (pe_op op_mulW (pe_ix (ix_listK (K := K)) (pv 0) (pv 6) (fun _ _ => rfl)) (pv 7))) (pg_sub (pv 10) (pv 6) set_list))
      (pss_one (ps_ret (pv 10))))))))))))), ?_⟩
    walk_at "n0"
    refine EvS.go ?_
    refine z_asg (by walk_at "ev") ?_
    walk_at "nf"
    refine z_asg (by walk_at "ev") ?_
    walk_at "nf"
    rcases (by omega : ax = 0 ∨ ax = 1 ∨ ax = 2) with rfl | rfl | rfl
    · refine z_asg (v := .int ((1 : Nat) : Int)) (ev_is (by walk_at "ev") (by rfl)) ?_
      walk_at "nf"
      refine z_asg (v := .int ((2 : Nat) : Int)) (ev_is (by walk_at "ev") (by rfl)) ?_
      walk_at "nf"
      refine z_asg (by walk_at "ev") ?_
      walk_at "nf"
      refine z_asg (by walk_at "ev") ?_
      walk_at "nf"
      refine z_asg (by walk_at "ev") ?_
      walk_at "nf"
      refine zm_new (by walk_at "ea") (Nat.le_of_ble_eq_true rfl) fun l hn => ?_
      walk_at "nf"
      refine zm_setV (j := 1) hn (by walk_at "ev") (by walk_at "ev") (by walk_at "ev") (Nat.le_of_ble_eq_true rfl) ?_
      walk_at "nf"
      refine zm_setV (j := 2) hn (by walk_at "ev") (by walk_at "ev") (by walk_at "ev") (Nat.le_of_ble_eq_true rfl) ?_
      walk_at "nf"
      exact zm_retL (by walk_at "ev") k
    · refine z_asg (v := .int ((2 : Nat) : Int)) (ev_is (by walk_at "ev") (by rfl)) ?_
      walk_at "nf"
      refine z_asg (v := .int ((0 : Nat) : Int)) (ev_is (by walk_at "ev") (by rfl)) ?_
      walk_at "nf"
      refine z_asg (by walk_at "ev") ?_
      walk_at "nf"
      refine z_asg (by walk_at "ev") ?_
      walk_at "nf"
      refine z_asg (by walk_at "ev") ?_
      walk_at "nf"
      refine zm_new (by walk_at "ea") (Nat.le_of_ble_eq_true rfl) fun l hn => ?_
      walk_at "nf"
      refine zm_setV (j := 2) hn (by walk_at "ev") (by walk_at "ev") (by walk_at "ev") (Nat.le_of_ble_eq_true rfl) ?_
      walk_at "nf"
      refine zm_setV (j := 0) hn (by walk_at "ev") (by walk_at "ev") (by walk_at "ev") (Nat.le_of_ble_eq_true rfl) ?_
      walk_at "nf"
      exact zm_retL (by walk_at "ev") k
    · refine z_asg (v := .int ((0 : Nat) : Int)) (ev_is (by walk_at "ev") (by rfl)) ?_
      walk_at "nf"
      refine z_asg (v := .int ((1 : Nat) : Int)) (ev_is (by walk_at "ev") (by rfl)) ?_
      walk_at "nf"
      refine z_asg (by walk_at "ev") ?_
      walk_at "nf"
      refine z_asg (by walk_at "ev") ?_
      walk_at "nf"
      refine z_asg (by walk_at "ev") ?_
      walk_at "nf"
      refine zm_new (by walk_at "ea") (Nat.le_of_ble_eq_true rfl) fun l hn => ?_
      walk_at "nf"
      refine zm_setV (j := 0) hn (by walk_at "ev") (by walk_at "ev") (by walk_at "ev") (Nat.le_of_ble_eq_true rfl) ?_
      walk_at "nf"
      refine zm_setV (j := 1) hn (by walk_at "ev") (by walk_at "ev") (by walk_at "ev") (Nat.le_of_ble_eq_true rfl) ?_
      walk_at "nf"
      exact zm_retL (by walk_at "ev") k
def sp_l_true (K : PySem.W.Frag) : Sp := fun vs H Q _ => ∃ (tj vl ol pt : Addr) (js : List JointD) (vals : List (Int × Int)) (offs : List P4) (n : Nat) (u : I3), vs = [.ref tj, .ref vl, .ref ol, .int (n : Int), .ref pt] ∧ RTp K js.length (fun i => JointAt K (js.getD i default)) tj H ∧
  RLp K vals.length (fun i => FracAt K (vals.getD i default)) vl H ∧ RLp K offs.length (fun i => PlaceAt K (offs.getD i default)) ol H ∧ SqT K H pt u.vs ∧ Sm u ∧ TpOk js vals offs n ∧ Ret (IsL (dueM js vals offs n u.p4).vs) H Q
theorem shift_q {q over under w : Int} (h : 0 < under) : q * under + over * (w * under) / under = q * under + over * w := by
  rw [← Int.mul_assoc, Int.mul_ediv_cancel _ (by omega)]
theorem vs_map (p : P4) : p.vs = [p.x, p.y, p.z, p.w].map V.int := rfl
theorem ok_l_true (T : Tx K mg) : FnOk P w K mg base CX0 2 (He.fAd K d_l_true.at_) (fd_l_true T) ["_law_joints", "_law_values_here", "_law_offsets_here", "_law_link", "_law_point"] (sp_l_true K) := by
  refine (F_l_true T).ok sc_l_true (fun vs H Q E h => ?_) (fun cdv A outer s H vs Q E hr h => ?_)
  · obtain ⟨tj, vl, ol, pt, js, vals, offs, n, u, rfl, _⟩ := h
    rfl
  · obtain ⟨tj, vl, ol, pt, js, vals, offs, n, u, rfl, hJ, hV, hO, hp, hu, ok, k⟩ := h
    unfold I3.vs at hp
    refine ⟨_, PSs.nox (pss_cons (ps_set (i := 5) sc_l_true.nd rfl (Or.inr rfl) (pe_lst (pa_cons (pe_ix (ix_tupK (K := K)) (pv 4) pe_int (fun _ _ => rfl)) (pa_cons (pe_ix (ix_tupK (K := K)) (pv 4) pe_int (fun _ _ => rfl)) (pa_cons (pe_ix (ix_tupK (K := K)) (pv 4) pe_int (fun _ _ => rfl)) (pa_cons pe_int pa_nil))))))
      (pss_cons (ps_for PassesOwn.never rfl (pi_range1 rfl (gf_range T) (pa_cons (pv 3) pa_nil)) (pg_name (i := 6) sc_l_true.nd rfl (Or.inl rfl)) (pss_cons (ps_set (i := 7) sc_l_true.nd rfl (Or.inl rfl) (pe_op op_sub (pe_op op_sub (pv 3) pe_int) (pv 6)))
      (pss_cons (ps_set (i := 8) sc_l_true.nd rfl (Or.inl rfl) (pe_ix (ix_tupK (K := K)) (pv 0) (pv 7) (fun _ _ => rfl)))
      (pss_cons (ps_set (i := 9) sc_l_true.nd rfl (Or.inr rfl) (pe_ix (ix_listK (K := K)) (pv 1) (pv 7) (fun _ _ => rfl)))
      (pss_cons (ps_if (pt_val (pe_fldK (K := K) (pv 8) rfl)) (pss_one (ps_set (i := 5) sc_l_true.nd rfl (Or.inr rfl) (pe_call (ok_l_turned T) (hr.mono (by decide)) rfl (g_l_turned T) (F_l_turned T).kp (b_l_turned T) .nil pass0 (pa_cons (pv 5) (pa_cons (pe_fldK (K := K) (pv 8) rfl) (pa_cons (pv 9) pa_nil)))))) (pss_cons (ps_set (i := 5) sc_l_true.nd rfl (Or.inr rfl) (pe_lc (own := [("_law_part", 11)]) (g := (gName 11)) (tt := tYes) rfl sc_l_true.nd (pi_listK (K := K) (pv 5)) (blkOk_by (own := [("_law_part", 11)]) (N := ["_law_joints", "_law_values_here", "_law_offsets_here", "_law_link", "_law_point", "_law_place", "_law_back", "_law_k", "_law_joint_here", "_law_value", "_law_shift", "_law_part", "_law_j"]) (sc := defScope s_l_true) (by decide +kernel)) (fun _ _ _ _ _ => (pg_name (i := 11) sc_l_true.nd rfl (Or.inl rfl))) (fun _ _ _ _ _ => pts_nil) (fun _ _ _ _ _ => (pe_op op_mulW (pv 11) (pe_ix (ix_tupK (K := K)) (pv 9) pe_int (fun _ _ => rfl))))))
      (pss_one (ps_asg (pe_op op_add (pe_ix (ix_listK (K := K)) (pv 5) (pe_fldK (K := K) (pv 8) rfl) (fun _ _ => rfl)) (pe_op op_fdivW (pe_op op_mulW (pe_ix (ix_tupK (K := K)) (pv 9) pe_int (fun _ _ => rfl)) (pe_ix (ix_listK (K := K)) (pv 5) pe_int (fun _ _ => rfl))) (pe_ix (ix_tupK (K := K)) (pv 9) pe_int (fun _ _ => rfl)))) (pg_sub (pv 5) (pe_fldK (K := K) (pv 8) rfl) set_list)))))
      (pss_cons (ps_set (i := 10) sc_l_true.nd rfl (Or.inr rfl) (pe_ix (ix_listK (K := K)) (pv 2) (pv 7) (fun _ _ => rfl)))
      (pss_one (ps_set (i := 5) sc_l_true.nd rfl (Or.inr rfl) (pe_op op_cat (pe_lc (own := [("_law_j", 12)]) (g := (gName 12)) (tt := tYes) rfl sc_l_true.nd (pi_range1 rfl (gf_range T) (pa_cons pe_int pa_nil)) (blkOk_by (own := [("_law_j", 12)]) (N := ["_law_joints", "_law_values_here", "_law_offsets_here", "_law_link", "_law_point", "_law_place", "_law_back", "_law_k", "_law_joint_here", "_law_value", "_law_shift", "_law_part", "_law_j"]) (sc := defScope s_l_true) (by decide +kernel)) (fun _ _ _ _ _ => (pg_name (i := 12) sc_l_true.nd rfl (Or.inl rfl))) (fun _ _ _ _ _ => pts_nil) (fun _ _ _ _ _ => (pe_op op_add (pe_op op_mulW (pe_ix (ix_listK (K := K)) (pv 5) (pv 12) (fun _ _ => rfl)) (pe_ix (ix_tupK (K := K)) (pv 10) pe_int (fun _ _ => rfl))) (pe_op op_mulW (pe_ix (ix_tupK (K := K)) (pv 10) (pv 12) (fun _ _ => rfl)) (pe_ix (ix_listK (K := K)) (pv 5) pe_int (fun _ _ => rfl)))))) (pe_lst (pa_cons (pe_op op_mulW (pe_ix (ix_listK (K := K)) (pv 5) pe_int (fun _ _ => rfl)) (pe_ix (ix_tupK (K := K)) (pv 10) pe_int (fun _ _ => rfl))) pa_nil)))))))))))
      (pss_one (ps_ret (pv 5))))), ?_⟩
    walk_at "n0"
    refine EvS.go ?_
    refine z_asgP (P := IsL u.p4.vs) (ep_lstV (vs := [.int u.x, .int u.y, .int u.z, .int 1]) (by walk_at "ea") (Nat.le_of_ble_eq_true rfl)) fun v H1 e hv => ?_
    walk_at "nf"
    obtain ⟨pa, rfl, hpa⟩ := hv
    have n6 := ok.n6
    intro H1' e1'
    refine q_forR1 (n := (n : Int)) (by walk_at "ea") (by omega) (fun i σ' H' => ∃ (pa : Addr) (p : P4) (x6 x7 x8 x9 x10 : Option V), σ' = [some (.ref tj), some (.ref vl), some (.ref ol), some (.int (n : Int)), some (.ref pt), some (.ref pa), x6, x7, x8, x9, x10, none, none] ∧ Ex H H' ∧
      H' pa = some (.lst p.vs) ∧ Bp (30 + 176 * i) p ∧ 0 < p.w ∧ dueM js vals offs (n - i) p = dueM js vals offs n u.p4) (fun H2 e2 => ?_) (fun i σ' H' hi p => ?_) (fun σ' H' p => ?_)
    · obtain ⟨⟨s1, s2⟩, ⟨s3, s4⟩, s5, s6⟩ := hu
      exact ⟨pa, u.p4, none, none, none, none, none, rfl, (e.trans e1').trans e2, (e1'.trans e2) _ _ hpa, ⟨by unfold Bz I3.p4; dsimp only; omega, by unfold Bz I3.p4; dsimp only; omega, by unfold Bz I3.p4; dsimp only; omega, by show (1 : Int).natAbs < 2 ^ 30; decide⟩, Int.zero_lt_one, rfl⟩
    · obtain ⟨pa, p, x6, x7, x8, x9, x10, rfl, e', hpa0, hb, hw, ht⟩ := p
      have hpa : SqL K H' pa p.vs := sq_of hpa0
      have hi : i < n := by omega
      have hk : n - 1 - i < n := by omega
      obtain ⟨yj, jv, hj1, hj2, hj3⟩ := (hJ.z (fun _ => z_Joint T _) (Ex.z e')).at (k := n - 1 - i) (Nat.lt_of_lt_of_le hk ok.nj)
      obtain ⟨yv, fv, hv1, hv2, hv3⟩ := (hV.up (fun _ => upz_rdT.up) e').at (k := n - 1 - i) (Nat.lt_of_lt_of_le hk ok.nv)
      obtain ⟨yo, ov, ho1, ho2, ho3⟩ := (hO.up (fun _ => upz_rdT.up) e').at (k := n - 1 - i) (Nat.lt_of_lt_of_le hk ok.no)
      obtain ⟨fa, rfl, hfa⟩ := hv3
      obtain ⟨oa, rfl, hoa⟩ := ho3
      have q1 := ok.v1 _ hk
      have q2 := ok.v2 _ hk
      have qx := ok.ax _ hk
      have qo := ok.ob _ hk
      have qw := ok.ow _ hk
      have qp := ok.vp _ hk
      have hstep : n - i = (n - 1 - i) + 1 := by omega
      rw [hstep] at ht
      have ht : dueM js vals offs (n - 1 - i) (addedM (movedM (js.getD (n - 1 - i) default) (vals.getD (n - 1 - i) default) p) (offs.getD (n - 1 - i) default)) = _ := ht
      have e6 : n - (i + 1) = n - 1 - i := by omega
      have ek : (n : Int) - 1 - (i : Int) = ((n - 1 - i : Nat) : Int) := by omega
      have hj3 : JointAt K (js.getD (n - 1 - i) default) jv H' := hj3
      generalize n - 1 - i = kk at *
      generalize js.getD kk default = jd at *
      generalize vals.getD kk default = vd at *
      generalize offs.getD kk default = od at *
      walk_at "nf"
      refine EvS.go ?_
      refine z_asg (v := .int (kk : Int)) (ev_is (by walk_at "ev") (congrArg V.int ek)) ?_
      walk_at "nf"
      refine z_asg (by walk_at "ev") ?_
      walk_at "nf"
      refine z_asg (by walk_at "ev") ?_
      walk_at "nf"
      refine z_iffP (b := jd.turns) (by walk_at "et") (fun σ' H2 => ∃ pq, σ' = [some (.ref tj), some (.ref vl), some (.ref ol), some (.int (n : Int)), some (.ref pt), some (.ref pq), some (.int (i : Int)), some (.int (kk : Int)), some jv, some (.ref fa), x10, none, none] ∧ Ex H' H2 ∧ H2 pq = some (.lst (movedM jd vd p).vs)) (fun hb1 N hN => ?_) (fun hb1 N hN => ?_) fun σ' H2 hP => ?_
      · refine z_asgPl (P := IsL (movedM jd vd p).vs) (ep_call (vs := [.ref pa, .int (jd.axis : Int), .ref fa]) (by walk_at "ea") fun H3 e3 Q k E => ?_) fun v H3 e3 hv => ?_
        · refine ⟨pa, fa, p, jd.axis, _, vd.1, vd.2, rfl, ex_l e3 hpa, ex_t e3 hfa, qx, hb, by omega, q1, q2, ?_⟩
          unfold movedM at k
          rw [if_pos hb1] at k
          exact k
        · obtain ⟨xa, rfl, hx⟩ := hv
          exact hN _ H3 ⟨xa, rfl, e3, hx⟩
      · obtain ⟨b1, b2, b3, b4⟩ := id hb
        have hmv : movedM jd vd p = shiftedM p jd.axis vd.1 vd.2 := by
          unfold movedM
          rw [if_neg (by rw [hb1]; decide)]
        refine zf_asg (EvF.weak (P := IsL ([p.x, p.y, p.z, p.w].map fun c => V.int (c * vd.2))) (ef_lcLi (K := K) (fun c => V.int (c * vd.2)) (by walk_at "ev") (by rw [← vs_map]; exact hpa) (Nat.le_of_ble_eq_true rfl) (fun _ => rfl) fun c hc => ?_) fun v H1 _ h => h) fun l H2 hn e2 hl => ?_
        · walk_at "nf"
          have hc2 : Bz (30 + 176 * i) c := by
            simp only [List.mem_cons, List.not_mem_nil, or_false] at hc
            rcases hc with rfl | rfl | rfl | rfl <;> assumption
          walk_at "ev"
        obtain ⟨l', el, hl⟩ := hl
        cases el
        walk_at "nf"
        have ec : p.w * vd.2 ≠ 0 ∨ True := .inr trivial
        have bw : Bz (30 + 176 * i + 20) (p.w * vd.2) := bz_mul b4 q2
        refine EvM.go ?_ e2 hl
        rcases (by omega : jd.axis = 0 ∨ jd.axis = 1 ∨ jd.axis = 2) with qa | qa | qa
        · have ea : Ev (tFld K (tVar 8) "axis") [some (.ref tj), some (.ref vl), some (.ref ol), some (.int (n : Int)), some (.ref pt), some (.ref l), some (.int (i : Int)), some (.int (kk : Int)), some jv, some (.ref fa), x10, none, none] H' (.int ((0 : Nat) : Int)) := ev_is (by walk_at "ev") (by rw [qa])
          refine sm_set (v := .int (p.x * vd.2 + vd.1 * p.w)) (r := tVar 0) hn (fun H3 e3 hl3 => ?_) (by walk_at "ev") ea (Nat.le_of_ble_eq_true rfl) fun H3 e3 hl3 => ?_
          · have hl3 : SqL K H3 l [V.int (p.x * vd.2), V.int (p.y * vd.2), V.int (p.z * vd.2), V.int (p.w * vd.2)] := sq_of hl3
            have hfa := ex_t e3 hfa
            have ea := ea.mono e3
            exact ev_is (ev_op (ev_op (by walk_at "ev") ea (rv_ixL hl3 rfl)) (by walk_at "ev") rv_add) (congrArg V.int (shift_q qp))
          · refine hN _ H3 ⟨l, rfl, e3, ?_⟩
            rw [hmv, qa]
            exact hl3
        · have ea : Ev (tFld K (tVar 8) "axis") [some (.ref tj), some (.ref vl), some (.ref ol), some (.int (n : Int)), some (.ref pt), some (.ref l), some (.int (i : Int)), some (.int (kk : Int)), some jv, some (.ref fa), x10, none, none] H' (.int ((1 : Nat) : Int)) := ev_is (by walk_at "ev") (by rw [qa])
          refine sm_set (v := .int (p.y * vd.2 + vd.1 * p.w)) (r := tVar 0) hn (fun H3 e3 hl3 => ?_) (by walk_at "ev") ea (Nat.le_of_ble_eq_true rfl) fun H3 e3 hl3 => ?_
          · have hl3 : SqL K H3 l [V.int (p.x * vd.2), V.int (p.y * vd.2), V.int (p.z * vd.2), V.int (p.w * vd.2)] := sq_of hl3
            have hfa := ex_t e3 hfa
            have ea := ea.mono e3
            exact ev_is (ev_op (ev_op (by walk_at "ev") ea (rv_ixL hl3 rfl)) (by walk_at "ev") rv_add) (congrArg V.int (shift_q qp))
          · refine hN _ H3 ⟨l, rfl, e3, ?_⟩
            rw [hmv, qa]
            exact hl3
        · have ea : Ev (tFld K (tVar 8) "axis") [some (.ref tj), some (.ref vl), some (.ref ol), some (.int (n : Int)), some (.ref pt), some (.ref l), some (.int (i : Int)), some (.int (kk : Int)), some jv, some (.ref fa), x10, none, none] H' (.int ((2 : Nat) : Int)) := ev_is (by walk_at "ev") (by rw [qa])
          refine sm_set (v := .int (p.z * vd.2 + vd.1 * p.w)) (r := tVar 0) hn (fun H3 e3 hl3 => ?_) (by walk_at "ev") ea (Nat.le_of_ble_eq_true rfl) fun H3 e3 hl3 => ?_
          · have hl3 : SqL K H3 l [V.int (p.x * vd.2), V.int (p.y * vd.2), V.int (p.z * vd.2), V.int (p.w * vd.2)] := sq_of hl3
            have hfa := ex_t e3 hfa
            have ea := ea.mono e3
            exact ev_is (ev_op (ev_op (by walk_at "ev") ea (rv_ixL hl3 rfl)) (by walk_at "ev") rv_add) (congrArg V.int (shift_q qp))
          · refine hN _ H3 ⟨l, rfl, e3, ?_⟩
            rw [hmv, qa]
            exact hl3
      · obtain ⟨pq, rfl, e2, hq⟩ := hP
        have ho1 := ex_l e2 ho1
        have hoa : SqT K H2 oa [.int od.x, .int od.y, .int od.z, .int od.w] := ex_t e2 hoa
        obtain ⟨m1, m2⟩ := moved_q (j := jd) (v := vd) qp hw
        obtain ⟨a1, a2⟩ := added_q m2 qw
        have bm := hb.moved (j := jd) q1 q2
        have ba := bm.added qo
        generalize movedM jd vd p = mp at *
        obtain ⟨b1, b2, b3, b4⟩ := id bm
        obtain ⟨c1, c2, c3, c4⟩ := id qo
        have hq2 : SqL K H2 pq [.int mp.x, .int mp.y, .int mp.z, .int mp.w] := sq_of hq
        refine EvS.go (z_asg (by walk_at "ev") ?_)
        walk_at "nf"
        refine z_asgPl (P := IsL (addedM mp od).vs) (ep_cat (vs := [V.int (mp.x * od.w + od.x * mp.w), V.int (mp.y * od.w + od.y * mp.w), V.int (mp.z * od.w + od.z * mp.w)]) (ws := [V.int (mp.w * od.w)]) (EvP.weak (ep_lcRi (n := 3) (fun i => .int (mp.l.getD i 0 * od.w + od.l.getD i 0 * mp.w)) (by walk_at "ea") (by decide) (fun _ => rfl) fun i hi => ?_) fun v H1 _ h => h) (ep_lstV (by walk_at "ea") (Nat.le_of_ble_eq_true rfl)) (Nat.le_of_ble_eq_true rfl)) fun v H3 e3 hv => ?_
        · walk_at "nf"
          rcases (by omega : i = 0 ∨ i = 1 ∨ i = 2) with rfl | rfl | rfl
          · exact ev_is (by walk_at "ev") (by rfl)
          · exact ev_is (by walk_at "ev") (by rfl)
          · exact ev_is (by walk_at "ev") (by rfl)
        · obtain ⟨xa, rfl, hx⟩ := hv
          refine ⟨xa, addedM mp od, _, _, _, _, _, rfl, (e'.trans e2).trans e3, hx, ?_, a2, by rw [e6]; exact ht⟩
          have e : 30 + 176 * (i + 1) = 30 + 176 * i + 145 + 31 := by omega
          rw [e]
          exact ba
    · obtain ⟨pa, p, x6, x7, x8, x9, x10, rfl, e', hpa, hb, hw, ht⟩ := p
      have en : ((n : Int)).toNat = n := rfl
      rw [en, Nat.sub_self] at ht
      have ht : p = _ := ht
      rw [← ht] at k
      refine EvS.go (z_retV (v := .ref pa) (by walk_at "ev") fun H2 e2 => ?_)
      exact k _ H2 (e'.trans e2) ⟨pa, rfl, e2 _ _ hpa⟩
end
/-! What the law means by values and offsets; its arm; its pairs. -/
section
variable {K : PySem.W.Frag} {σ : L2.St} {H H' H2 : Hp} {ta tb te tf to tl : TE} {t : TT} {x y v z : V} {tr : TA} {vs ws xs zs : List V} {D : Ends} {tu tw tz : TS} {l : Addr} {m : Nat} {b : Bool} {P P' : VP} {Pi : Nat → VP} {i n : Nat}
/-- n items, of the j-th Pi j -/
def LsG (zs : List V) (n : Nat) (Pi : Nat → VP) (H : Hp) : Prop := zs.length = n ∧ ∀ (j : Nat) y, zs[j]? = some y → Pi j y H
theorem LsG.mz (hP : ∀ i, UpZ K (Pi i)) (e : Ez K H H') (h : LsG zs n Pi H) : LsG zs n Pi H' := ⟨h.1, fun j y q => hP j y _ _ e (h.2 j y q)⟩
theorem LsG.app (h : LsG zs n Pi H) (hy : Pi n y H) : LsG (zs ++ [y]) (n + 1) Pi H := by
  obtain ⟨h1, h2⟩ := h
  refine ⟨by simp [h1], fun j u hj => ?_⟩
  rcases Nat.lt_or_ge j zs.length with r | r
  · rw [List.getElem?_append_left r] at hj
    exact h2 j u hj
  · rw [List.getElem?_append_right r] at hj
    have ej : j - zs.length = 0 := by
      rcases Nat.eq_zero_or_pos (j - zs.length) with r | r
      · exact r
      · rw [List.getElem?_eq_none (by simp; omega)] at hj
        cases hj
    rw [ej] at hj
    have : y = u := Option.some.inj hj
    subst this
    have : j = n := by omega
    subst this
    exact hy
theorem s_appP (hl : H l = some (.lst zs)) (ho : Ev to σ H (.ref l)) (h : EvP te σ H P) (hz : zs.length < 100000) (k : ∀ v H1, Ex H H1 → P v H1 → D.nx σ (upd H1 l (.lst (zs ++ [v])))) : tDrop (tBM K "list" rAppend to (tCons te tNil)) D σ H := ho H (Ex.refl H) _ fun H1 e1 =>
  ⟨Or.inl ⟨rfl, zs, sq_of (e1 l _ hl)⟩, h H1 e1 _ fun v H2 e2 p => ⟨l, zs, v, rfl, rfl, e2 l _ (e1 l _ hl), sz_lt hz, k v H2 (e1.trans e2) p⟩⟩
/-- [.. for k in range(n)]: a list of such items -/
theorem z_forG {ta : TA} {j : Nat} {n : Int} (hP : ∀ i, UpZ K (Pi i)) (hn : H l = none) (h : EvA ta σ H [.int n]) (h0 : 0 ≤ n ∧ n ≤ 100000) (I : L2.St → Prop) (i0 : I σ)
    (hs : ∀ (i : Nat) σ' H' zs, (i : Int) < n → I σ' → Ex H H' → H' l = some (.lst zs) → zs.length = i → ∀ (N : L2.St → Hp → Prop) (B : L2.St → Hp → Prop), (∀ σ2 H1 v, Ex H' H1 → Pi i v H1 → I σ2 → N σ2 (upd H1 l (.lst (zs ++ [v])))) → tu { D with nx := N, ct := N, bk := B } (σ'.set j (some (.int (i : Int)))) H')
    (k : ∀ σ' H', I σ' → Ex H H' → LsP n.toNat Pi (.ref l) H' → tz D σ' H') : EvM l [] (tSeq (tFor (iRng1 ta) (gName j) tu) tz) D σ H := fun H1 e hl => by
  refine q_forR1 (h.mono e) h0 (fun i σ' H' => I σ' ∧ Ex H H' ∧ ∃ zs, H' l = some (.lst zs) ∧ LsG zs i Pi H') (fun H2 e2 => ⟨i0, e.trans e2, [], e2 l _ hl, rfl, fun j y q => by simp at q⟩) (fun i σ' H' hi p => ?_) (fun σ' H' p => ?_)
  · obtain ⟨pi, pe, zs, pl, pg⟩ := p
    refine hs i σ' H' zs hi pi pe pl pg.1 _ _ fun σ2 H3 v e3 pv i2 => ⟨i2, Ex.mut (pe.trans e3) hn, zs ++ [v], upd_same, ?_⟩
    exact ((pg.mz hP (Ex.z e3)).app pv).mz hP (Ez.lst (e3 _ _ pl))
  · obtain ⟨pi, pe, zs, pl, pg⟩ := p
    exact k σ' H' pi pe ⟨l, zs, rfl, pl, pg⟩
end
section
variable {P : Program} {w : World} {K : PySem.W.Frag} {mg : Str → Option Value} {base : Heap}
def sp_l_meant (K : PySem.W.Frag) : Sp := fun vs H Q _ => ∃ (tj fl ll pt : Addr) (js : List JointD) (first last : List Int) (over under row : Int), vs = [.ref tj, .ref fl, .ref ll, .ref pt, .int row] ∧ RTp K js.length (fun i => JointAt K (js.getD i default)) tj H ∧
  SqL K H fl (first.map V.int) ∧ SqL K H ll (last.map V.int) ∧ SqT K H pt [.int over, .int under] ∧ js.length ≤ 6 ∧ first.length = js.length ∧ last.length = js.length ∧ (∀ k, k < js.length → 0 ≤ (js.getD k default).error ∧ (js.getD k default).error ≤ 100000) ∧
  (-1073741824 < over ∧ over < 1073741824) ∧ (-1073741824 < under ∧ under < 1073741824) ∧ Ret (LsP js.length fun i => FracAt K ((lawMeant js first last over under row).getD i default)) H Q
theorem ok_l_meant (T : Tx K mg) : FnOk P w K mg base CX0 1 (He.fAd K d_l_meant.at_) (fd_l_meant T) ["_law_joints", "_law_first", "_law_last", "_law_part", "_law_row"] (sp_l_meant K) := by
  refine (F_l_meant T).ok sc_l_meant (fun vs H Q E h => ?_) (fun cdv A outer s H vs Q E hr h => ?_)
  · obtain ⟨tj, fl, ll, pt, js, first, last, over, under, row, rfl, _⟩ := h
    rfl
  · obtain ⟨tj, fl, ll, pt, js, first, last, over, under, row, rfl, hJ, hf, hl, hp, j6, l1, l2, er, ho, hu, k⟩ := h
    obtain ⟨yj, j1, j2, j3⟩ := id hJ
    refine ⟨_, PSs.nox (pss_cons (ps_set (i := 5) sc_l_meant.nd rfl (Or.inl rfl) (pe_lst pa_nil))
      (pss_cons (ps_for PassesOwn.never rfl (pi_range1 rfl (gf_range T) (pa_cons (pe_callB (k_lenK (K := K)) rfl (gf_len T) PySem.boot_len (pa_cons (pv 0) pa_nil)) pa_nil)) (pg_name (i := 6) sc_l_meant.nd rfl (Or.inl rfl)) (pss_cons (ps_set (i := 7) sc_l_meant.nd rfl (Or.inl rfl) (pe_op op_sub (pe_op op_mod (pe_callTy k_int1 rfl (gf_int T) (by decide +kernel) (pa_cons (pe_op op_fdiv (pv 4) (pe_op op_add (pv 6) pe_int)) pa_nil)) (pe_op op_add (pe_op op_mul pe_int (pe_fldK (K := K) (pe_ix (ix_tupK (K := K)) (pv 0) (pv 6) (fun _ _ => rfl)) rfl)) pe_int)) (pe_fldK (K := K) (pe_ix (ix_tupK (K := K)) (pv 0) (pv 6) (fun _ _ => rfl)) rfl)))
      (pss_cons (ps_set (i := 8) sc_l_meant.nd rfl (Or.inl rfl) (pe_op op_add (pe_op op_mul (pe_op op_add (pe_ix (ix_listK (K := K)) (pv 1) (pv 6) (fun _ _ => rfl)) (pv 7)) (pe_ix (ix_tupK (K := K)) (pv 3) pe_int (fun _ _ => rfl))) (pe_op op_mul (pe_op op_sub (pe_ix (ix_listK (K := K)) (pv 2) (pv 6) (fun _ _ => rfl)) (pe_ix (ix_listK (K := K)) (pv 1) (pv 6) (fun _ _ => rfl))) (pe_ix (ix_tupK (K := K)) (pv 3) pe_int (fun _ _ => rfl)))))
      (pss_one (ps_expr (pe_bmK (K := K) PySem.F.plainAttrs_list PySem.F.slot_list_append PySem.F.type_list_append mt_append (pv 5) (pa_cons (pe_tup (pa_cons (pv 8) (pa_cons (pe_ix (ix_tupK (K := K)) (pv 3) pe_int (fun _ _ => rfl)) pa_nil))) pa_nil)))))))
      (pss_one (ps_ret (pv 5))))), ?_⟩
    walk_at "n0"
    refine EvS.go ?_
    refine zm_new (by walk_at "ea") (Nat.le_of_ble_eq_true rfl) fun l hn => ?_
    walk_at "nf"
    refine z_forG (K := K) (n := (yj.length : Int)) (Pi := fun i => FracAt K ((lawMeant js first last over under row).getD i default)) (fun _ => upz_rdT) hn (by walk_at "ea") (by omega) (fun σ' => ∃ x6 x7 x8, σ' = [some (.ref tj), some (.ref fl), some (.ref ll), some (.ref pt), some (.int row), some (.ref l), x6, x7, x8]) ⟨none, none, none, rfl⟩ (fun i σ' H' zs hi p e hl' hz N B hN => ?_) (fun σ' H' p e hL => ?_)
    · obtain ⟨x6, x7, x8, rfl⟩ := p
      have hi2 : i < js.length := by omega
      obtain ⟨y2, jv, q1, q2, q3⟩ := (hJ.z (fun _ => z_Joint T _) (Ex.z e)).at (k := i) hi2
      have q3 : JointAt K (js.getD i default) jv H' := q3
      have hf := ex_l e hf
      have hl := ex_l e hl
      have hp := ex_t e hp
      have f1 := ints_at (ns := first) (k := i) (by omega)
      have f2 := ints_at (ns := last) (k := i) (by omega)
      obtain ⟨e1, e2⟩ := er i hi2
      have ev : (lawMeant js first last over under row).getD i default = ((first.getD i 0 + (row / ((i : Int) + 2) % (2 * (js.getD i default).error + 1) - (js.getD i default).error)) * under + (last.getD i 0 - first.getD i 0) * over, under) := range_getD hi2
      rw [ev] at hN
      generalize js.getD i default = jd at *
      have hpos : 0 < 2 * jd.error + 1 := by omega
      walk_at "nf"
      refine EvS.go ?_
      refine z_asg (by walk_at "ev") ?_
      walk_at "nf"
      refine z_asg (by walk_at "ev") ?_
      walk_at "nf"
      intro H3 e3
      refine s_appP (K := K) (l := l) (zs := zs) (e3 _ _ hl') (by walk_at "ev") ((EvP.weak (ep_tupV (by walk_at "ea") (Nat.le_of_ble_eq_true rfl)) fun v H4 _ h => h.rd (K := K)).mono e3) (by omega) fun v H4 e4 hv => hN _ H4 v (e3.trans e4) hv ⟨_, _, _, rfl⟩
    · obtain ⟨x6, x7, x8, rfl⟩ := p
      have en : ((yj.length : Int)).toNat = js.length := by omega
      rw [en] at hL
      refine EvS.go (z_retV (v := .ref l) (by walk_at "ev") fun H3 e3 => ?_)
      exact k _ H3 (e.trans e3) (up_lsP (fun _ => upz_rdT.up) _ _ _ e3 hL)
def sp_l_offsets (K : PySem.W.Frag) : Sp := fun vs H Q _ => ∃ (tj : Addr) (js : List JointD) (row : Int), vs = [.ref tj, .int row] ∧ RTp K js.length (fun i => JointAt K (js.getD i default)) tj H ∧ js.length ≤ 6 ∧ (∀ k, k < js.length → 0 ≤ (js.getD k default).box) ∧
  Ret (LsP js.length fun i => PlaceAt K ((lawOffs js row).getD i default)) H Q
theorem ok_l_offsets (T : Tx K mg) : FnOk P w K mg base CX0 1 (He.fAd K d_l_offsets.at_) (fd_l_offsets T) ["_law_joints", "_law_row"] (sp_l_offsets K) := by
  refine (F_l_offsets T).ok sc_l_offsets (fun vs H Q E h => ?_) (fun cdv A outer s H vs Q E hr h => ?_)
  · obtain ⟨tj, js, row, rfl, _⟩ := h
    rfl
  · obtain ⟨tj, js, row, rfl, hJ, j6, bx, k⟩ := h
    obtain ⟨yj, j1, j2, j3⟩ := id hJ
    refine ⟨_, PSs.nox (pss_cons (ps_set (i := 2) sc_l_offsets.nd rfl (Or.inl rfl) (pe_lst pa_nil))
      (pss_cons (ps_for PassesOwn.never rfl (pi_range1 rfl (gf_range T) (pa_cons (pe_callB (k_lenK (K := K)) rfl (gf_len T) PySem.boot_len (pa_cons (pv 0) pa_nil)) pa_nil)) (pg_name (i := 3) sc_l_offsets.nd rfl (Or.inr rfl)) (pss_cons (ps_set (i := 4) sc_l_offsets.nd rfl (Or.inr rfl) (pe_op op_add (pe_op op_mul pe_int (pe_fldK (K := K) (pe_ix (ix_tupK (K := K)) (pv 0) (pv 3) (fun _ _ => rfl)) rfl)) pe_int))
      (pss_cons (ps_set (i := 5) sc_l_offsets.nd rfl (Or.inr rfl) (pe_lc (own := [("_law_j", 6)]) (g := (gName 6)) (tt := tYes) rfl sc_l_offsets.nd (pi_range1 rfl (gf_range T) (pa_cons pe_int pa_nil)) (blkOk_by (own := [("_law_j", 6)]) (N := ["_law_joints", "_law_row", "_law_offsets_here", "_law_k", "_law_wide", "_law_shift", "_law_j"]) (sc := defScope s_l_offsets) (by decide +kernel)) (fun _ _ _ _ _ => (pg_name (i := 6) sc_l_offsets.nd rfl (Or.inl rfl))) (fun _ _ _ _ _ => pts_nil) (fun _ _ _ _ _ => (pe_op op_sub (pe_op op_mod (pe_callTy k_int1 rfl (gf_int T) (by decide +kernel) (pa_cons (pe_op op_fdiv (pv 1) (pe_op op_add (pe_op op_add (pe_op op_mul pe_int (pv 3)) (pv 6)) pe_int)) pa_nil)) (pv 4)) (pe_fldK (K := K) (pe_ix (ix_tupK (K := K)) (pv 0) (pv 3) (fun _ _ => rfl)) rfl)))))
      (pss_one (ps_expr (pe_bmK (K := K) PySem.F.plainAttrs_list PySem.F.slot_list_append PySem.F.type_list_append mt_append (pv 2) (pa_cons (pe_callTy (k_tupK (K := K)) rfl (gf_tuple T) (by decide +kernel) (pa_cons (pe_op op_cat (pe_lc (own := [("_law_j", 6)]) (g := (gName 6)) (tt := tYes) rfl sc_l_offsets.nd (pi_range1 rfl (gf_range T) (pa_cons pe_int pa_nil)) (blkOk_by (own := [("_law_j", 6)]) (N := ["_law_joints", "_law_row", "_law_offsets_here", "_law_k", "_law_wide", "_law_shift", "_law_j"]) (sc := defScope s_l_offsets) (by decide +kernel)) (fun _ _ _ _ _ => (pg_name (i := 6) sc_l_offsets.nd rfl (Or.inl rfl))) (fun _ _ _ _ _ => pts_nil) (fun _ _ _ _ _ => (pe_op op_add (pe_ix (ix_tupK (K := K)) (pe_fldK (K := K) (pe_ix (ix_tupK (K := K)) (pv 0) (pv 3) (fun _ _ => rfl)) rfl) (pv 6) (fun _ _ => rfl)) (pe_ix (ix_listK (K := K)) (pv 5) (pv 6) (fun _ _ => rfl))))) (pe_lst (pa_cons pe_int pa_nil))) pa_nil)) pa_nil)))))))
      (pss_one (ps_ret (pv 2))))), ?_⟩
    walk_at "n0"
    refine EvS.go ?_
    refine zm_new (by walk_at "ea") (Nat.le_of_ble_eq_true rfl) fun l hn => ?_
    walk_at "nf"
    refine z_forG (K := K) (n := (yj.length : Int)) (Pi := fun i => PlaceAt K ((lawOffs js row).getD i default)) (fun _ => upz_rdT) hn (by walk_at "ea") (by omega) (fun σ' => ∃ x3 x4 x5, σ' = [some (.ref tj), some (.int row), some (.ref l), x3, x4, x5, none]) ⟨none, none, none, rfl⟩ (fun i σ' H' zs hi p e hl' hz N B hN => ?_) (fun σ' H' p e hL => ?_)
    · obtain ⟨x3, x4, x5, rfl⟩ := p
      have hi2 : i < js.length := by omega
      obtain ⟨y2, jv, q1, q2, q3⟩ := (hJ.z (fun _ => z_Joint T _) (Ex.z e)).at (k := i) hi2
      have q3 : JointAt K (js.getD i default) jv H' := q3
      have b0 := bx i hi2
      have ev : (lawOffs js row).getD i default = ⟨(js.getD i default).offset.x + (row / (7 * (i : Int) + 0 + 1) % (2 * (js.getD i default).box + 1) - (js.getD i default).box), (js.getD i default).offset.y + (row / (7 * (i : Int) + 1 + 1) % (2 * (js.getD i default).box + 1) - (js.getD i default).box), (js.getD i default).offset.z + (row / (7 * (i : Int) + 2 + 1) % (2 * (js.getD i default).box + 1) - (js.getD i default).box), 1⟩ := range_getD hi2
      rw [ev] at hN
      generalize js.getD i default = jd at *
      have hpos : 0 < 2 * jd.box + 1 := by omega
      walk_at "nf"
      refine EvS.go ?_
      refine z_asg (v := .int (2 * jd.box + 1)) (by walk_at "ev") ?_
      walk_at "nf"
      refine z_asgP (P := IsL [V.int (row / (7 * (i : Int) + 0 + 1) % (2 * jd.box + 1) - jd.box), V.int (row / (7 * (i : Int) + 1 + 1) % (2 * jd.box + 1) - jd.box), V.int (row / (7 * (i : Int) + 2 + 1) % (2 * jd.box + 1) - jd.box)]) (EvP.weak (ep_lcRi (n := 3) (fun m => .int (row / (7 * (i : Int) + (m : Int) + 1) % (2 * jd.box + 1) - jd.box)) (by walk_at "ea") (by decide) (fun _ => rfl) fun m hm => ?_) fun v H1 _ h => h) fun v H3 e3 hv => ?_
      · walk_at "nf"
        walk_at "ev"
      obtain ⟨sp, rfl, hs⟩ := hv
      have hs : SqL K H3 sp [V.int (row / (7 * (i : Int) + 0 + 1) % (2 * jd.box + 1) - jd.box), V.int (row / (7 * (i : Int) + 1 + 1) % (2 * jd.box + 1) - jd.box), V.int (row / (7 * (i : Int) + 2 + 1) % (2 * jd.box + 1) - jd.box)] := sq_of hs
      generalize row / (7 * (i : Int) + 0 + 1) % (2 * jd.box + 1) - jd.box = s0 at *
      generalize row / (7 * (i : Int) + 1 + 1) % (2 * jd.box + 1) - jd.box = s1 at *
      generalize row / (7 * (i : Int) + 2 + 1) % (2 * jd.box + 1) - jd.box = s2 at *
      have q1 := ex_t e3 q1
      obtain ⟨ja, jdx, jo, rfl, hja, hjo⟩ := z_Joint T _ _ _ _ (Ex.z e3) q3
      have hjo : SqT K H3 jo [.int jd.offset.x, .int jd.offset.y, .int jd.offset.z] := hjo
      walk_at "nf"
      intro H4 e4
      refine s_appP (K := K) (l := l) (zs := zs) (P := PlaceAt K ⟨jd.offset.x + s0, jd.offset.y + s1, jd.offset.z + s2, 1⟩) ((e3.trans e4) _ _ hl') (by walk_at "ev") (EvP.mono e4 (EvP.weak (P := IsT ([V.int (jd.offset.x + s0), V.int (jd.offset.y + s1), V.int (jd.offset.z + s2)] ++ [V.int 1])) (ep_tupOfI (ep_cat (EvP.weak (ep_lcRi (n := 3) (fun m => .int ([jd.offset.x, jd.offset.y, jd.offset.z].getD m 0 + [s0, s1, s2].getD m 0)) (by walk_at "ea") (by decide) (fun _ => rfl) fun m hm => ?_) fun v H1 _ h => h) (ep_lstV (by walk_at "ea") (Nat.le_of_ble_eq_true rfl)) (Nat.le_of_ble_eq_true rfl))) fun v H5 _ h => h.rd)) (by omega) fun v H5 e5 hv => hN _ H5 v ((e3.trans e4).trans e5) hv ⟨_, _, _, rfl⟩
      walk_at "nf"
      rcases (by omega : m = 0 ∨ m = 1 ∨ m = 2) with rfl | rfl | rfl
      · exact ev_is (by walk_at "ev") (by rfl)
      · exact ev_is (by walk_at "ev") (by rfl)
      · exact ev_is (by walk_at "ev") (by rfl)
    · obtain ⟨x3, x4, x5, rfl⟩ := p
      have en : ((yj.length : Int)).toNat = js.length := by omega
      rw [en] at hL
      refine EvS.go (z_retV (v := .ref l) (by walk_at "ev") fun H3 e3 => ?_)
      exact k _ H3 (e.trans e3) (up_lsP (fun _ => upz_rdT.up) _ _ _ e3 hL)
def sp_l_pairs (K : PySem.W.Frag) : Sp := fun vs H Q _ => ∃ (lp tb : Addr) (ls : List Int) (bs : List (Int × Int)), vs = [.ref lp, .ref tb] ∧ SqL K H lp (ls.map V.int) ∧ RTp K bs.length (fun i => PairAt K (bs.getD i default)) tb H ∧ ls.length ≤ 16 ∧
  Ret (fun v H2 => ∃ l zs, v = .ref l ∧ H2 l = some (.lst zs) ∧ Items K zs (pairsM ls bs) H2) H Q
theorem ok_l_pairs (T : Tx K mg) : FnOk P w K mg base CX0 1 (He.fAd K d_l_pairs.at_) (fd_l_pairs T) ["_law_links", "_law_beside"] (sp_l_pairs K) := by
  refine (F_l_pairs T).ok sc_l_pairs (fun vs H Q E h => ?_) (fun cdv A outer s H vs Q E hr h => ?_)
  · obtain ⟨lp, tb, ls, bs, rfl, _⟩ := h
    rfl
  · obtain ⟨lp, tb, ls, bs, rfl, hlp2, ⟨yb, hb12, hb2, hb32⟩, hl17, k⟩ := h
    have hb32 : ∀ (i : Nat) y, yb[i]? = some y → PairV K (bs.getD i default) y H := hb32
    have hll : (ls.map V.int).length = ls.length := List.length_map ..
    refine ⟨_, PSs.nox (pss_cons (ps_set (i := 2) sc_l_pairs.nd rfl (Or.inl rfl) (pe_lst pa_nil))
      (pss_cons (ps_for PassesOwn.never rfl (pi_range1 rfl (gf_range T) (pa_cons (pe_callB (k_lenK (K := K)) rfl (gf_len T) PySem.boot_len (pa_cons (pv 0) pa_nil)) pa_nil)) (pg_name (i := 3) sc_l_pairs.nd rfl (Or.inl rfl)) (pss_one (ps_for PassesOwn.never rfl (pi_range2 rfl (gf_range T) (pa_cons (pe_op op_add (pv 3) pe_int) (pa_cons (pe_callB (k_lenK (K := K)) rfl (gf_len T) PySem.boot_len (pa_cons (pv 0) pa_nil)) pa_nil))) (pg_name (i := 4) sc_l_pairs.nd rfl (Or.inl rfl)) (pss_one (ps_if (PW.pt (pw_and (pt_cmpR op_gt (pe_callB k_abs rfl (gf_abs T) (by decide +kernel) (pa_cons (pe_op op_sub (pe_ix (ix_listK (K := K)) (pv 0) (pv 3) (fun _ _ => rfl)) (pe_ix (ix_listK (K := K)) (pv 0) (pv 4) (fun _ _ => rfl))) pa_nil)) pe_int (nomark _)) (pw_and1 (pt_cmpR (op_notInDK (K := K) (hu65 hr)) (pe_tup (pa_cons (pv 3) (pa_cons (pv 4) pa_nil))) (pv 1) (by rfl))))) (pss_one (ps_expr (pe_bmK (K := K) PySem.F.plainAttrs_list PySem.F.slot_list_append PySem.F.type_list_append mt_append (pv 2) (pa_cons (pe_tup (pa_cons (pv 3) (pa_cons (pv 4) pa_nil))) pa_nil)))) pss_nil)))))
      (pss_one (ps_ret (pv 2))))), ?_⟩
    walk_at "n0"
    refine EvS.go ?_
    refine zm_new (by walk_at "ea") (Nat.le_of_ble_eq_true rfl) fun l hn => ?_
    walk_at "nf"
    intro H3 e3 hl3
    have hlp0 := ex_l e3 hlp2
    refine q_forR1 (n := (((ls.map V.int).length : Nat) : Int)) (by walk_at "ea") (by omega) (fun i σ' H' => (∃ xk xj, σ' = [some (.ref lp), some (.ref tb), some (.ref l), xk, xj]) ∧ Ex H H' ∧ ∃ zs, H' l = some (.lst zs) ∧ Items K zs (outerP ls bs i) H') (fun H4 e4 => ⟨⟨none, none, rfl⟩, e3.trans e4, [], e4 _ _ hl3, rfl, fun j y q => by simp at q⟩) (fun i σ' H' hi p => ?_) (fun σ' H' p => ?_)
    · obtain ⟨⟨xk, xj, rfl⟩, pe, zs, hz, it⟩ := p
      have hi1 : i < ls.length := by omega
      have hlp3 := ex_l pe hlp2
      walk_at "nf"
      refine s_forR2 (lo := (i : Int) + 1) (n := (((ls.map V.int).length : Nat) : Int)) (by walk_at "ea") (by omega) (fun m σ' H' => (∃ xj, σ' = [some (.ref lp), some (.ref tb), some (.ref l), some (.int (i : Int)), xj]) ∧ Ex H H' ∧ ∃ zs, H' l = some (.lst zs) ∧ Items K zs (outerP ls bs i ++ innerP ls bs i m) H') (fun H4 e4 => ⟨⟨xj, rfl⟩, pe.trans e4, zs, e4 _ _ hz, by rw [show innerP ls bs i 0 = [] from rfl, List.append_nil]; exact it.mz (Ex.z e4)⟩) (fun m σ' H' hm' p => ?_) (fun σ' H' p => ?_)
      · obtain ⟨⟨xj, rfl⟩, pe, zs, hz, it⟩ := p
        have hj1 : i + 1 + m < ls.length := by omega
        have ej : ((i : Int) + 1 + (m : Int)) = ((i + 1 + m : Nat) : Int) := by omega
        rw [ej]
        have li := ints_at hi1
        have lj := ints_at hj1
        have hlp3 := ex_l pe hlp2
        have hb13 := ex_t pe hb12
        have hb33 : ∀ (i : Nat) y, yb[i]? = some y → PairV K (bs.getD i default) y H' := fun i y q => upz_rdT.up _ _ _ pe (hb32 i y q)
        have len := it.1
        have l1 := outerP_len ls bs i
        have l2 := innerP_len ls bs i m
        have l3 : i * ls.length ≤ 16 * 16 := Nat.mul_le_mul (by omega) hl17
        rw [List.length_append] at len
        walk_at "nf"
        refine s_when (b := okP ls bs i (i + 1 + m)) (et_is (et_and (et_test (by walk_at "ev")) fun _ => et_test (ev_niD (by walk_at "ea") (by walk_at "ev") hb13 hb2 hb33)) rfl) (fun hb H4 e4 => ?_) (fun hb H4 e4 => ?_)
        · refine s_appU (l := l) (xs := zs) (ys := [.int (i : Int), .int ((i + 1 + m : Nat) : Int)]) (e4 _ _ hz) (by walk_at "ev") (eu_tup (by walk_at "ea") (Nat.le_of_ble_eq_true rfl)) (by omega) fun p H5 hp e5 hq => ?_
          have ez : Ez K H5 (upd H5 l (.lst (zs ++ [.ref p]))) := Ez.lst (e5 _ _ (e4 _ _ hz))
          refine ⟨⟨_, rfl⟩, Ex.mut ((pe.trans e4).trans e5) hn, zs ++ [.ref p], upd_same, ?_⟩
          show Items K _ (outerP ls bs i ++ (if okP ls bs i (i + 1 + m) = true then innerP ls bs i m ++ [((i : Int), ((i + 1 + m : Nat) : Int))] else innerP ls bs i m)) _
          rw [if_pos hb, ← List.append_assoc]
          exact ((it.mz (Ex.z (e4.trans e5))).app ⟨p, rfl, st_of hq⟩).mz ez
        · refine ⟨⟨_, rfl⟩, pe.trans e4, zs, e4 _ _ hz, ?_⟩
          show Items K _ (outerP ls bs i ++ (if okP ls bs i (i + 1 + m) = true then innerP ls bs i m ++ [((i : Int), ((i + 1 + m : Nat) : Int))] else innerP ls bs i m)) _
          rw [if_neg (by rw [hb]; decide)]
          exact it.mz (Ex.z e4)
      · obtain ⟨⟨xj, rfl⟩, pe, zs, hz, it⟩ := p
        refine ⟨⟨_, xj, rfl⟩, pe, zs, hz, ?_⟩
        have et : ((((ls.map V.int).length : Nat) : Int) - ((i : Int) + 1)).toNat = ls.length - (i + 1) := by omega
        rw [et] at it
        exact it
    · obtain ⟨⟨xk, xj, rfl⟩, pe, zs, hz, it⟩ := p
      have et : ((((ls.map V.int).length : Nat) : Int)).toNat = ls.length := by omega
      rw [et] at it
      refine EvS.go (z_retV (v := .ref l) (by walk_at "ev") fun H4 e4 => ?_)
      exact k _ H4 (pe.trans e4) ⟨l, zs, rfl, e4 _ _ hz, it.mz (Ex.z e4)⟩
end
/-! What the law makes of its rows, and that it is fit. -/
def lawMany (R : List Int) : Nat := (5 + R.getD 0 0 % 2).toNat
def lawArm (R : List Int) : ArmD := ⟨(List.range (lawMany R)).map fun k => lawJoint (R.getD (1 + k) 0) (R.getD (7 + k) 0 % 900),
  (List.range 8).map fun k => (lawLink (R.getD (13 + k) 0) (lawMany R), lawBody (R.getD (13 + k) 0)),
  (List.range 3).map fun k => (R.getD (21 + k) 0 % 4, 4 + R.getD (21 + k) 0 / 4 % 4)⟩
def lFirst (R : List Int) : List Int := lawValues (lawArm R).joints (R.getD 24 0)
def lLast (R : List Int) : List Int := lawValues (lawArm R).joints (R.getD 25 0)
def lDepth (R : List Int) : Nat := (R.getD 26 0 % 10).toNat
def lAt (R : List Int) : Int := R.getD 26 0 / 10 % 2 ^ lDepth R
def lUnder (R : List Int) : Int := 1 + R.getD 27 0 % 12
def lRest (R : List Int) : Int := R.getD 27 0 / 12 % (lUnder R + 1)
def lOver (R : List Int) : Int := lAt R * lUnder R + lRest R
def lWhole (R : List Int) : Int := lUnder R * 2 ^ lDepth R
def lVals (R : List Int) : List (Int × Int) := lawMeant (lawArm R).joints (lFirst R) (lLast R) (lOver R) (lWhole R) (R.getD 28 0)
def lOffs (R : List Int) : List P4 := lawOffs (lawArm R).joints (R.getD 29 0)
def lMid (R : List Int) : List Int := midM (lFirst R) (lLast R) (lDepth R) (lAt R)
def lHs (R : List Int) : List Int := halvesM (lFirst R) (lLast R) (lDepth R)
def heldB : BodyD := ⟨⟨0, 0, 20⟩, ⟨5, 0, 30⟩, 3⟩
def lawM (R : List Int) : MoverD := ⟨lawArm R, lFirst R, lLast R, [heldB]⟩
theorem many_in (R : List Int) : 5 ≤ lawMany R ∧ lawMany R ≤ 6 := by
  obtain ⟨a, b⟩ := mod_in (a := R.getD 0 0) (m := 2) (by decide)
  unfold lawMany
  omega
theorem many_cast (R : List Int) : (lawMany R : Int) = 5 + R.getD 0 0 % 2 := by
  obtain ⟨a, b⟩ := mod_in (a := R.getD 0 0) (m := 2) (by decide)
  unfold lawMany
  omega
theorem joints_len (R : List Int) : (lawArm R).joints.length = lawMany R := by
  unfold lawArm
  simp
theorem caps_len (R : List Int) : (lawArm R).caps.length = 8 := by
  unfold lawArm
  simp
theorem beside_len (R : List Int) : (lawArm R).beside.length = 3 := by
  unfold lawArm
  simp
theorem joints_at (R : List Int) {k : Nat} (h : k < lawMany R) : (lawArm R).joints.getD k default = lawJoint (R.getD (1 + k) 0) (R.getD (7 + k) 0 % 900) := range_getD h
theorem caps_at (R : List Int) {k : Nat} (h : k < 8) : (lawArm R).caps.getD k default = (lawLink (R.getD (13 + k) 0) (lawMany R), lawBody (R.getD (13 + k) 0)) := range_getD h
theorem beside_at (R : List Int) {k : Nat} (h : k < 3) : (lawArm R).beside.getD k default = (R.getD (21 + k) 0 % 4, 4 + R.getD (21 + k) 0 / 4 % 4) := range_getD h
theorem link_le (row : Int) (n : Nat) : lawLink row n ≤ n := by
  obtain ⟨a, b⟩ := mod_in (a := row / 97) (m := (n : Int) + 1) (by omega)
  unfold lawLink
  omega
theorem law_jv (R : List Int) (k : Nat) (h : k < (lawArm R).joints.length) : JValid ((lawArm R).joints.getD k default) := by
  rw [joints_len] at h
  rw [joints_at R h]
  obtain ⟨a, b⟩ := mod_in (a := R.getD (7 + k) 0) (m := 900) (by decide)
  exact lawJoint_valid a b
theorem law_av (R : List Int) : ArmOk (lawArm R) where
  a := by
    obtain ⟨m1, m2⟩ := many_in R
    refine ⟨?_, ?_, ?_, ?_, fun k hk => ?_, fun k hk => ?_⟩
    · rw [joints_len]; omega
    · rw [joints_len]; omega
    · rw [caps_len]; omega
    · rw [beside_len]; omega
    · rw [caps_len] at hk
      rw [caps_at R hk, joints_len]
      exact link_le _ _
    · rw [beside_len] at hk
      rw [beside_at R hk, caps_len]
      obtain ⟨a, b⟩ := mod_in (a := R.getD (21 + k) 0) (m := 4) (by decide)
      obtain ⟨c, d⟩ := mod_in (a := R.getD (21 + k) 0 / 4) (m := 4) (by decide)
      dsimp only
      omega
  j := law_jv R
  c := fun k hk => by
    rw [caps_len] at hk
    rw [caps_at R hk]
    exact lawBody_valid _
theorem far_sm {u : I3} (h : u.far ≤ 10000000) : Sm u := by
  unfold I3.far max2 absI at h
  unfold Sm
  refine ⟨⟨?_, ?_⟩, ⟨?_, ?_⟩, ?_, ?_⟩ <;> (repeat' split at h) <;> omega
theorem JValid.ok {j : JointD} (h : JValid j) : JOk j := ⟨h.ax, h.b0, h.e0, h.lm⟩
theorem JValid.rng {j : JointD} (h : JValid j) : -10000000 ≤ j.least ∧ j.least ≤ j.most ∧ j.most ≤ 10000000 := by
  have h1 := h.lo
  have h2 := h.hi
  have h3 := h.lm
  by_cases q : j.turns = true
  · rw [if_pos q] at h1 h2; omega
  · rw [if_neg q] at h1 h2; omega
theorem values_len (js : List JointD) (row : Int) : (lawValues js row).length = js.length := by
  unfold lawValues
  simp
theorem values_at {js : List JointD} {row : Int} {k : Nat} (hk : k < js.length) (hl : (js.getD k default).least ≤ (js.getD k default).most) : (js.getD k default).least ≤ (lawValues js row).getD k 0 ∧ (lawValues js row).getD k 0 ≤ (js.getD k default).most := by
  have e : (lawValues js row).getD k 0 = _ := range_getD hk
  rw [e]
  obtain ⟨a, b⟩ := mod_in (a := row / ((k : Int) + 1) + row / 1000003 * ((k : Int) + 3)) (m := (js.getD k default).most - (js.getD k default).least + 1) (by omega)
  omega
theorem values_fit {js : List JointD} (row : Int) (hj : ∀ k, k < js.length → JValid (js.getD k default)) (h6 : js.length ≤ 6) : FitsOk js (lawValues js row) := ⟨values_len js row, by rw [values_len]; exact h6, fun k hk => by
  rw [values_len] at hk
  exact values_at hk (hj k hk).lm⟩
theorem fits_rng {js : List JointD} {row : List Int} (hj : ∀ k, k < js.length → JValid (js.getD k default)) (h : FitsOk js row) (k : Nat) (hk : k < row.length) : -10000000 ≤ row.getD k 0 ∧ row.getD k 0 ≤ 10000000 := by
  have h1 := h.r k hk
  have h2 := (hj k (by rw [← h.l]; exact hk)).rng
  omega
theorem fits_sm {js : List JointD} {row : List Int} (hj : ∀ k, k < js.length → JValid (js.getD k default)) (h : FitsOk js row) : RowSm row := ⟨h.l6, fun k hk => by
  have := fits_rng hj h k hk
  omega⟩
theorem law_j6 (R : List Int) : (lawArm R).joints.length ≤ 6 := by rw [joints_len]; exact (many_in R).2
theorem law_f1 (R : List Int) : FitsOk (lawArm R).joints (lFirst R) := values_fit _ (law_jv R) (law_j6 R)
theorem law_f2 (R : List Int) : FitsOk (lawArm R).joints (lLast R) := values_fit _ (law_jv R) (law_j6 R)
theorem depth_le (R : List Int) : lDepth R ≤ 9 := by
  obtain ⟨a, b⟩ := mod_in (a := R.getD 26 0) (m := 10) (by decide)
  unfold lDepth
  omega
theorem depth_cast (R : List Int) : (lDepth R : Int) = R.getD 26 0 % 10 := by
  obtain ⟨a, b⟩ := mod_in (a := R.getD 26 0) (m := 10) (by decide)
  unfold lDepth
  omega
theorem two_depth (R : List Int) : (1 : Int) ≤ 2 ^ lDepth R ∧ (2 : Int) ^ lDepth R ≤ 512 := by
  have h := depth_le R
  have h1 : (2 : Nat) ^ lDepth R ≤ 2 ^ 9 := Nat.pow_le_pow_right (by decide) h
  have h2 : 0 < (2 : Nat) ^ lDepth R := Nat.pow_pos (by decide)
  have e : (2 : Int) ^ lDepth R = (((2 : Nat) ^ lDepth R : Nat) : Int) := by rw [Int.natCast_pow] <;> rfl
  rw [e]
  omega
theorem at_in (R : List Int) : 0 ≤ lAt R ∧ lAt R < 2 ^ lDepth R := mod_in (by have := (two_depth R).1; omega)
theorem under_in (R : List Int) : 1 ≤ lUnder R ∧ lUnder R ≤ 12 := by
  obtain ⟨a, b⟩ := mod_in (a := R.getD 27 0) (m := 12) (by decide)
  unfold lUnder
  omega
theorem rest_in (R : List Int) : 0 ≤ lRest R ∧ lRest R ≤ lUnder R := by
  obtain ⟨a, b⟩ := under_in R
  obtain ⟨c, d⟩ := mod_in (a := R.getD 27 0 / 12) (m := lUnder R + 1) (by omega)
  unfold lRest
  omega
theorem whole_in (R : List Int) : 1 ≤ lWhole R ∧ lWhole R ≤ 6144 := by
  obtain ⟨a, b⟩ := under_in R
  obtain ⟨c, d⟩ := two_depth R
  unfold lWhole
  generalize (2 : Int) ^ lDepth R = p at *
  generalize lUnder R = u at *
  have h1 := Int.mul_le_mul a c (by decide) (by omega)
  have h2 := Int.mul_le_mul b d (by omega) (by decide)
  omega
theorem over_in (R : List Int) : 0 ≤ lOver R ∧ lOver R ≤ lWhole R := by
  obtain ⟨a, b⟩ := under_in R
  obtain ⟨c, d⟩ := at_in R
  obtain ⟨e, f⟩ := rest_in R
  unfold lOver lWhole
  generalize (2 : Int) ^ lDepth R = p at *
  generalize lUnder R = u at *
  have h1 := Int.mul_nonneg c (show 0 ≤ u by omega)
  have h2 := mul_up (show lAt R + 1 ≤ p by omega) (show 0 ≤ u by omega)
  rw [Int.add_mul, Int.one_mul, Int.mul_comm p u] at h2
  omega
theorem law_within (R : List Int) : ∀ k, k < (lawArm R).joints.length → Within (lawArm R).joints (lHs R) (lMid R) (lVals R) (lOffs R) k := by
  obtain ⟨a, b⟩ := under_in R
  obtain ⟨c, d⟩ := at_in R
  obtain ⟨e, f⟩ := rest_in R
  exact lawWithin (fun k hk => (law_jv R k hk).ok) (law_f1 R).l (fun k hk => (law_f1 R).r k (by rw [(law_f1 R).l]; exact hk)) (fun k hk => (law_f2 R).r k (by rw [(law_f2 R).l]; exact hk)) c d a e f
theorem vals_len (R : List Int) : (lVals R).length = (lawArm R).joints.length := by
  unfold lVals lawMeant
  simp
theorem offs_len (R : List Int) : (lOffs R).length = (lawArm R).joints.length := by
  unfold lOffs lawOffs
  simp
theorem mid_len (R : List Int) : (lMid R).length = (lawArm R).joints.length := by
  unfold lMid midM
  rw [List.length_map, List.length_range]
  exact (law_f1 R).l
theorem hs_len (R : List Int) : (lHs R).length = (lawArm R).joints.length := by
  unfold lHs halvesM
  rw [List.length_map, List.length_range]
  exact (law_f1 R).l
theorem bz_of {n : Nat} {i b : Int} (h1 : -b < i) (h2 : i < b) (hb : b = 2 ^ n) : Bz n i := by
  unfold Bz
  have e : (2 : Int) ^ n = (((2 : Nat) ^ n : Nat) : Int) := by rw [Int.natCast_pow] <;> rfl
  rw [e] at hb
  omega
theorem bz_div {n : Nat} {i j : Int} (h : Bz n i) : Bz n (i / j) := Nat.lt_of_le_of_lt (Int.natAbs_ediv_le_natAbs i j) h
theorem law_v1 (R : List Int) (k : Nat) (hk : k < (lawArm R).joints.length) : Bz 40 ((lVals R).getD k default).1 := by
  have e : (lVals R).getD k default = _ := range_getD hk
  rw [e]
  obtain ⟨w1, w2⟩ := whole_in R
  obtain ⟨o1, o2⟩ := over_in R
  obtain ⟨f1, f2⟩ := fits_rng (law_jv R) (law_f1 R) k (by rw [(law_f1 R).l]; exact hk)
  obtain ⟨g1, g2⟩ := fits_rng (law_jv R) (law_f2 R) k (by rw [(law_f2 R).l]; exact hk)
  have j0 := (law_jv R k hk).e0
  have j1 := (law_jv R k hk).e1
  obtain ⟨l1, l2⟩ := mod_in (a := R.getD 28 0 / ((k : Int) + 2)) (m := 2 * ((lawArm R).joints.getD k default).error + 1) (by omega)
  have b1 : Bz 24 ((lFirst R).getD k 0 + (R.getD 28 0 / ((k : Int) + 2) % (2 * ((lawArm R).joints.getD k default).error + 1) - ((lawArm R).joints.getD k default).error)) := bz_of (b := 16777216) (by omega) (by omega) (by decide)
  have b2 : Bz 25 ((lLast R).getD k 0 - (lFirst R).getD k 0) := bz_of (b := 33554432) (by omega) (by omega) (by decide)
  have b3 : Bz 13 (lWhole R) := bz_of (b := 8192) (by omega) (by omega) (by decide)
  have b4 : Bz 13 (lOver R) := bz_of (b := 8192) (by omega) (by omega) (by decide)
  exact bz_mono (bz_add (bz_mul b1 b3) (bz_mul b2 b4)) (by decide)
theorem law_v2 (R : List Int) (k : Nat) (hk : k < (lawArm R).joints.length) : ((lVals R).getD k default).2 = lWhole R := by
  have e : (lVals R).getD k default = _ := range_getD hk
  rw [e]
theorem law_ob (R : List Int) (k : Nat) (hk : k < (lawArm R).joints.length) : Bp 30 ((lOffs R).getD k default) := by
  have e : (lOffs R).getD k default = _ := range_getD hk
  rw [e]
  have J := law_jv R k hk
  have b0 := J.b0
  have b1 := J.b1
  obtain ⟨⟨s1, s2⟩, ⟨s3, s4⟩, s5, s6⟩ : (-10000001 < ((lawArm R).joints.getD k default).offset.x ∧ ((lawArm R).joints.getD k default).offset.x < 10000001) ∧ (-10000001 < ((lawArm R).joints.getD k default).offset.y ∧ ((lawArm R).joints.getD k default).offset.y < 10000001) ∧ (-10000001 < ((lawArm R).joints.getD k default).offset.z ∧ ((lawArm R).joints.getD k default).offset.z < 10000001) := by
    have h := J.off
    unfold I3.far max2 absI at h
    refine ⟨⟨?_, ?_⟩, ⟨?_, ?_⟩, ?_, ?_⟩ <;> (repeat' split at h) <;> omega
  have hp : 0 < 2 * ((lawArm R).joints.getD k default).box + 1 := by omega
  obtain ⟨x1, x2⟩ := mod_in (a := R.getD 29 0 / (7 * (k : Int) + 0 + 1)) hp
  obtain ⟨y1, y2⟩ := mod_in (a := R.getD 29 0 / (7 * (k : Int) + 1 + 1)) hp
  obtain ⟨z1, z2⟩ := mod_in (a := R.getD 29 0 / (7 * (k : Int) + 2 + 1)) hp
  exact ⟨bz_of (b := 1073741824) (by dsimp only; omega) (by dsimp only; omega) (by decide), bz_of (b := 1073741824) (by dsimp only; omega) (by dsimp only; omega) (by decide), bz_of (b := 1073741824) (by dsimp only; omega) (by dsimp only; omega) (by decide), by show (1 : Int).natAbs < 2 ^ 30; decide⟩
theorem law_tp (R : List Int) {n : Nat} (hn : n ≤ (lawArm R).joints.length) : TpOk (lawArm R).joints (lVals R) (lOffs R) n where
  n6 := Nat.le_trans hn (law_j6 R)
  nj := hn
  nv := by rw [vals_len]; exact hn
  no := by rw [offs_len]; exact hn
  ax := fun k hk => (law_jv R k (by omega)).ax
  v1 := fun k hk => law_v1 R k (by omega)
  v2 := fun k hk => by
    rw [law_v2 R k (by omega)]
    obtain ⟨a, b⟩ := whole_in R
    exact bz_of (b := 1048576) (by omega) (by omega) (by decide)
  vp := fun k hk => by
    rw [law_v2 R k (by omega)]
    have := (whole_in R).1
    omega
  ob := fun k hk => law_ob R k (by omega)
  ow := fun k hk => by rw [(law_within R k (by omega)).ow]; exact Int.zero_lt_one
theorem mid_bz (R : List Int) (k : Nat) (hk : k < (lawArm R).joints.length) : Bz 40 ((lMid R).getD k 0) := by
  have e : (lMid R).getD k 0 = _ := range_getD (by rw [(law_f1 R).l]; exact hk)
  rw [e]
  obtain ⟨f1, f2⟩ := fits_rng (law_jv R) (law_f1 R) k (by rw [(law_f1 R).l]; exact hk)
  obtain ⟨g1, g2⟩ := fits_rng (law_jv R) (law_f2 R) k (by rw [(law_f2 R).l]; exact hk)
  obtain ⟨c, d⟩ := at_in R
  have t2 := (two_depth R).2
  have b1 : Bz 24 ((lFirst R).getD k 0) := bz_of (b := 16777216) (by omega) (by omega) (by decide)
  have b2 : Bz 25 ((lLast R).getD k 0 - (lFirst R).getD k 0) := bz_of (b := 33554432) (by omega) (by omega) (by decide)
  have b3 : Bz 11 (2 * lAt R + 1) := bz_of (b := 2048) (by omega) (by omega) (by decide)
  exact bz_mono (bz_add b1 (bz_div (bz_mul b2 b3))) (by decide)
theorem divUp_bz {n : Nat} {i j : Int} (h : Bz n i) : Bz n (divUp i j) := by
  unfold divUp
  have h1 : Bz n (-i) := by unfold Bz at *; omega
  have h2 : Bz n ((-i) / j) := bz_div h1
  unfold Bz at *
  omega
theorem hs_bz (R : List Int) (k : Nat) (hk : k < (lawArm R).joints.length) : Bz 26 ((lHs R).getD k 0) := by
  have e : (lHs R).getD k 0 = _ := range_getD (by rw [(law_f1 R).l]; exact hk)
  rw [e]
  obtain ⟨f1, f2⟩ := fits_rng (law_jv R) (law_f1 R) k (by rw [(law_f1 R).l]; exact hk)
  obtain ⟨g1, g2⟩ := fits_rng (law_jv R) (law_f2 R) k (by rw [(law_f2 R).l]; exact hk)
  have b2 : Bz 25 (absI ((lLast R).getD k 0 - (lFirst R).getD k 0)) := by
    refine bz_of (b := 33554432) ?_ ?_ (by decide) <;> (unfold absI; split <;> omega)
  split
  · exact bz_add (divUp_bz b2) (bz_of (b := 2) (by decide) (by decide) (by decide : (2 : Int) = 2 ^ 1))
  · exact bz_of (b := 67108864) (by decide) (by decide) (by decide)
theorem law_sp (R : List Int) {n : Nat} (hn : n ≤ (lawArm R).joints.length) : SpOk (lawArm R).joints (lMid R) n where
  n6 := Nat.le_trans hn (law_j6 R)
  nj := hn
  nv := by rw [mid_len]; exact hn
  j6 := law_j6 R
  r6 := by rw [mid_len]; exact law_j6 R
  ax := fun k hk => (law_jv R k (by omega)).ax
  v1 := fun k hk => mid_bz R k (by omega)
  ob := fun k hk => far_sm (law_jv R k (by omega)).off
theorem law_uk (R : List Int) {n : Nat} (hn : n ≤ (lawArm R).joints.length) : UkOk (lawArm R).joints (lHs R) n where
  n6 := Nat.le_trans hn (law_j6 R)
  nj := hn
  nv := by rw [hs_len]; exact hn
  h1 := fun k hk => by
    have := hs_bz R k (by omega)
    unfold Bz at this
    omega
  e1 := fun k hk => by
    have h1 := (law_jv R k (by omega)).e0
    have h2 := (law_jv R k (by omega)).e1
    omega
  ob := fun k hk => far_sm (law_jv R k (by omega)).off
/-! Sizes of the bounds and places; what the certificate holds. -/
theorem isqrt_le (n : Nat) : Float64.isqrt n ≤ n := by
  have h := (Float64.isqrt_spec n).1
  rcases Nat.eq_zero_or_pos (Float64.isqrt n) with z | z
  · omega
  · exact Nat.le_trans (Nat.le_mul_of_pos_left _ z) h
theorem rootUp_bz {n : Int} {m : Nat} (h : Bz m n) (h0 : 0 ≤ n) : Bz (m + 1) (rootUp n) := by
  have h1 := isqrt_le n.toNat
  have h2 : 0 < 2 ^ m := Nat.pow_pos (by decide)
  unfold Bz at *
  rw [Nat.pow_succ]
  unfold rootUp
  split <;> omega
theorem sqv_nn (u : I3) : 0 ≤ u.sq := by
  have h : ∀ a : Int, 0 ≤ a * a := fun a => by
    rcases Int.le_total 0 a with z | z
    · exact Int.mul_nonneg z z
    · exact Int.mul_nonneg_of_nonpos_of_nonpos z z
  have h1 := h u.x
  have h2 := h u.y
  have h3 := h u.z
  unfold I3.sq
  omega
theorem len_bz {u : I3} (h : Sm u) : Bz 64 (lenUp u) := by
  obtain ⟨⟨s1, s2⟩, ⟨s3, s4⟩, s5, s6⟩ := h
  have b1 : Bz 30 u.x := bz_of (b := 1073741824) s1 s2 (by decide)
  have b2 : Bz 30 u.y := bz_of (b := 1073741824) s3 s4 (by decide)
  have b3 : Bz 30 u.z := bz_of (b := 1073741824) s5 s6 (by decide)
  have b : Bz 62 u.sq := bz_mono (bz_add (bz_add (bz_mul b1 b1) (bz_mul b2 b2)) (bz_mul b3 b3)) (by decide)
  exact bz_mono (rootUp_bz b (sqv_nn u)) (by decide)
theorem max2_bz {n : Nat} {i j : Int} (hi : Bz n i) (hj : Bz n j) : Bz n (max2 i j) := by
  unfold max2
  split <;> assumption
theorem absI_bz {n : Nat} {i : Int} (h : Bz n i) : Bz n (absI i) := by
  unfold absI Bz at *
  split <;> omega
/-- what a step of the bound adds is small -/
structure UkB (js : List JointD) (hs : List Int) (n : Nat) : Prop where
  v : ∀ k, k < n → JValid (js.getD k default)
  h : ∀ k, k < n → Bz 26 (hs.getD k 0)
theorem unkGo_bz {js : List JointD} {hs : List Int} : ∀ (n m : Nat) (a l : Int), UkB js hs n → 70 ≤ m → Bz m a → Bz m l → Bz (m + 60 * n) (unkGo lenUp js hs n a l)
  | 0, m, a, l, _, _, ha, _ => ha
  | n + 1, m, a, l, ok, hm, ha, hl => by
    have J := ok.v n (Nat.lt_succ_self n)
    have hh := ok.h n (Nat.lt_succ_self n)
    have b0 := J.b0
    have b1 := J.b1
    have e0 := J.e0
    have e1 := J.e1
    obtain ⟨r1, r2, r3⟩ := J.rng
    have lo := len_bz (far_sm J.off)
    show Bz (m + 60 * (n + 1)) (unkGo lenUp js hs n ((if (js.getD n default).turns then a + divUp (2 * l * (hs.getD n 0 + (js.getD n default).error)) 1000000 else a + (hs.getD n 0 + (js.getD n default).error)) + 2 * (js.getD n default).box) ((if (js.getD n default).turns then l else l + max2 (absI (js.getD n default).least) (absI (js.getD n default).most) + (js.getD n default).error) + lenUp (js.getD n default).offset + 2 * (js.getD n default).box))
    generalize js.getD n default = j at *
    generalize hs.getD n 0 = h0 at *
    have be : Bz 20 j.error := bz_of (b := 1048576) (by omega) (by omega) (by decide)
    have bb : Bz 20 (2 * j.box) := bz_of (b := 1048576) (by omega) (by omega) (by decide)
    have bl : Bz 24 j.least := bz_of (b := 16777216) (by omega) (by omega) (by decide)
    have bm : Bz 24 j.most := bz_of (b := 16777216) (by omega) (by omega) (by decide)
    have b2 : Bz 2 (2 : Int) := by unfold Bz; decide
    have bloose : Bz 27 (h0 + j.error) := bz_mono (bz_add hh be) (by decide)
    have hstep : Bz (m + 35) ((if j.turns then a + divUp (2 * l * (h0 + j.error)) 1000000 else a + (h0 + j.error)) + 2 * j.box) := by
      split
      · exact bz_mono (bz_add (bz_add ha (divUp_bz (bz_mul (bz_mul b2 hl) bloose))) bb) (by omega)
      · exact bz_mono (bz_add (bz_add ha bloose) bb) (by omega)
    have lstep : Bz (m + 35) ((if j.turns then l else l + max2 (absI j.least) (absI j.most) + j.error) + lenUp j.offset + 2 * j.box) := by
      split
      · exact bz_mono (bz_add (bz_add hl lo) bb) (by omega)
      · exact bz_mono (bz_add (bz_add (bz_add (bz_add hl (max2_bz (absI_bz bl) (absI_bz bm))) be) lo) bb) (by omega)
    have g := unkGo_bz n (m + 35) _ _ ⟨fun k hk => ok.v k (Nat.lt_succ_of_lt hk), fun k hk => ok.h k (Nat.lt_succ_of_lt hk)⟩ (by omega) hstep lstep
    exact bz_mono g (by omega)
theorem unkM_bz (R : List Int) {n : Nat} (hn : n ≤ (lawArm R).joints.length) {b : BodyD} (h1 : Sm b.first) (h2 : Sm b.last) : Bz 500 (unkM lenUp (lawArm R).joints (lHs R) n b) := by
  have h6 := law_j6 R
  have g := unkGo_bz (js := (lawArm R).joints) (hs := lHs R) n 70 2 (max2 (lenUp b.first) (lenUp b.last)) ⟨fun k hk => law_jv R k (by omega), fun k hk => hs_bz R k (by omega)⟩ (by decide) (by unfold Bz; decide) (bz_mono (max2_bz (len_bz h1) (len_bz h2)) (by decide))
  exact bz_mono g (by omega)
theorem Bp.due {js : List JointD} {vals : List (Int × Int)} {offs : List P4} : ∀ (n m : Nat) (p : P4), (∀ k, k < n → Bz 40 (vals.getD k default).1 ∧ Bz 20 (vals.getD k default).2 ∧ Bp 30 (offs.getD k default)) → Bp m p → Bp (m + 176 * n) (dueM js vals offs n p)
  | 0, m, p, _, h => h
  | n + 1, m, p, ok, h => by
    obtain ⟨q1, q2, q3⟩ := ok n (Nat.lt_succ_self n)
    have g := (h.moved (j := js.getD n default) q1 q2).added q3
    have e : m + 176 * (n + 1) = (m + 145 + 31) + 176 * n := by omega
    rw [e]
    exact Bp.due n (m + 145 + 31) _ (fun k hk => ok k (Nat.lt_succ_of_lt hk)) g
theorem Bp.up {n m : Nat} {p : P4} (h : Bp n p) (hm : n ≤ m) : Bp m p := ⟨bz_mono h.x hm, bz_mono h.y hm, bz_mono h.z hm, bz_mono h.w hm⟩
theorem law_tb (R : List Int) {n : Nat} (hn : n ≤ (lawArm R).joints.length) {u : I3} (hu : Sm u) : Bp 1100 (trueM (lawArm R).joints (lVals R) (lOffs R) n u.p4) ∧ Bp 1100 (dueM (lawArm R).joints (lVals R) (lOffs R) n u.p4) := by
  have tp := law_tp R hn
  have h6 := law_j6 R
  have ok : ∀ k, k < n → Bz 40 ((lVals R).getD k default).1 ∧ Bz 20 ((lVals R).getD k default).2 ∧ Bp 30 ((lOffs R).getD k default) := fun k hk => ⟨tp.v1 k hk, tp.v2 k hk, tp.ob k hk⟩
  exact ⟨(Bp.true n 30 _ ok hu.bp).up (by omega), (Bp.due n 30 _ ok hu.bp).up (by omega)⟩
theorem law_sb (R : List Int) {n : Nat} (hn : n ≤ (lawArm R).joints.length) {u : I3} (hu : Sm u) : Bz 1100 (spotM (lawArm R).joints (lMid R) n u).x ∧ Bz 1100 (spotM (lawArm R).joints (lMid R) n u).y ∧ Bz 1100 (spotM (lawArm R).joints (lMid R) n u).z := by
  have tp := (law_sp R hn).tp
  have h6 := law_j6 R
  have b := (Bp.true (js := (lawArm R).joints) n 30 u.p4 (fun k hk => ⟨tp.v1 k hk, tp.v2 k hk, tp.ob k hk⟩) hu.bp).up (show _ ≤ 1100 by omega)
  exact ⟨bz_div b.x, bz_div b.y, bz_div b.z⟩
/-! bodies -/
theorem bls_len (R : List Int) : (blsM (lawM R)).length = 9 := by
  rw [blsM_len]
  show (lawArm R).caps.length + 1 = 9
  rw [caps_len]
theorem bls_last (R : List Int) : (blsM (lawM R)).getD 8 default = ((lawArm R).joints.length, heldB) := by
  unfold blsM
  rw [List.getD_eq_getElem?_getD, List.getElem?_append_right (by show (lawArm R).caps.length ≤ 8; rw [caps_len]; omega)]
  show (([heldB].map fun b => ((lawArm R).joints.length, b))[8 - (lawArm R).caps.length]?.getD default) = _
  rw [caps_len] <;> rfl
theorem held_bv : BValid heldB := ⟨by decide, by decide, by decide, by decide⟩
theorem bls_ok (R : List Int) (k : Nat) (hk : k < 9) : ((blsM (lawM R)).getD k default).1 ≤ (lawArm R).joints.length ∧ BValid ((blsM (lawM R)).getD k default).2 := by
  by_cases h8 : k = 8
  · subst h8
    rw [bls_last]
    exact ⟨Nat.le_refl _, held_bv⟩
  · have hk8 : k < 8 := by omega
    have e : (blsM (lawM R)).getD k default = (lawArm R).caps.getD k default := by
      unfold blsM
      rw [List.getD_eq_getElem?_getD, List.getElem?_append_left (by show k < (lawArm R).caps.length; rw [caps_len]; exact hk8), ← List.getD_eq_getElem?_getD]
      rfl
    rw [e, caps_at R hk8, joints_len]
    exact ⟨link_le _ _, lawBody_valid _⟩
theorem law_sm (R : List Int) : MSm (lawM R) := ⟨by show (lawArm R).caps.length ≤ 8; rw [caps_len]; omega, by show (1 : Nat) ≤ 8; omega, law_j6 R, by show (lawArm R).beside.length ≤ 1000; rw [beside_len]; omega⟩
theorem law_mv (R : List Int) : MvOk (lawM R) where
  a := law_av R
  f := law_f1 R
  l := law_f2 R
  h4 := by show (1 : Nat) ≤ 4; omega
  h := fun k hk => by
    have : k = 0 := by have : k < 1 := hk; omega
    subst this
    exact held_bv
/-! what is written is small -/
def Tn (n : Int) : Prop := n.natAbs < 10 ^ 20
theorem tn_of {n : Int} (h1 : -100000000 < n) (h2 : n < 100000000) : Tn n := by
  unfold Tn
  omega
theorem all_at {α : Type} [Inhabited α] {l : List α} {x : α} (h : x ∈ l) : ∃ k, k < l.length ∧ l.getD k default = x := by
  obtain ⟨k, hk, e⟩ := List.getElem_of_mem h
  exact ⟨k, hk, by rw [List.getD_eq_getElem?_getD, List.getElem?_eq_getElem hk]; exact e⟩
theorem far_rng {u : I3} (h : u.far ≤ 10000000) : (-100000000 < u.x ∧ u.x < 100000000) ∧ (-100000000 < u.y ∧ u.y < 100000000) ∧ (-100000000 < u.z ∧ u.z < 100000000) := by
  unfold I3.far max2 absI at h
  refine ⟨⟨?_, ?_⟩, ⟨?_, ?_⟩, ?_, ?_⟩ <;> (repeat' split at h) <;> omega
theorem body_tn {b : BodyD} (v : BValid b) : ∀ n ∈ bodyN b, Tn n := by
  obtain ⟨⟨a1, a2⟩, ⟨a3, a4⟩, a5, a6⟩ := far_rng v.f
  obtain ⟨⟨c1, c2⟩, ⟨c3, c4⟩, c5, c6⟩ := far_rng v.l
  have r0 := v.r0
  have r1 := v.r1
  intro n hn
  unfold bodyN at hn
  simp only [List.mem_cons, List.not_mem_nil, or_false] at hn
  rcases hn with rfl | rfl | rfl | rfl | rfl | rfl | rfl <;> exact tn_of (by omega) (by omega)
theorem joint_tn {j : JointD} (v : JValid j) : ∀ n ∈ jointN j, Tn n := by
  obtain ⟨⟨a1, a2⟩, ⟨a3, a4⟩, a5, a6⟩ := far_rng v.off
  obtain ⟨r1, r2, r3⟩ := v.rng
  have ax := v.ax
  have b0 := v.b0
  have b1 := v.b1
  have e0 := v.e0
  have e1 := v.e1
  intro n hn
  unfold jointN at hn
  simp only [List.mem_cons, List.not_mem_nil, or_false] at hn
  rcases hn with rfl | rfl | rfl | rfl | rfl | rfl | rfl | rfl | rfl | rfl | rfl | rfl <;> first | (split <;> decide) | exact tn_of (by omega) (by omega)
theorem flat_tn {α : Type} [Inhabited α] {f : α → List Int} {l : List α} (h : ∀ k, k < l.length → ∀ n ∈ f (l.getD k default), Tn n) : ∀ n ∈ l.flatMap f, Tn n := by
  intro n hn
  obtain ⟨x, hx, hn⟩ := List.mem_flatMap.mp hn
  obtain ⟨k, hk, e⟩ := all_at hx
  rw [← e] at hn
  exact h k hk n hn
theorem row_tn {l : List Int} (h : ∀ k, k < l.length → -10000000 ≤ l.getD k 0 ∧ l.getD k 0 ≤ 10000000) : ∀ n ∈ l, Tn n := by
  intro n hn
  obtain ⟨k, hk, e⟩ := all_at hn
  have := h k hk
  have e2 : l.getD k 0 = n := e
  rw [e2] at this
  exact tn_of (by omega) (by omega)
theorem app_tn {l m : List Int} (h1 : ∀ n ∈ l, Tn n) (h2 : ∀ n ∈ m, Tn n) : ∀ n ∈ l ++ m, Tn n := fun n hn => by
  rcases List.mem_append.mp hn with q | q
  · exact h1 n q
  · exact h2 n q
theorem cons_tn {a : Int} {m : List Int} (h1 : Tn a) (h2 : ∀ n ∈ m, Tn n) : ∀ n ∈ a :: m, Tn n := fun n hn => by
  rcases List.mem_cons.mp hn with q | q
  · rw [q]; exact h1
  · exact h2 n q
theorem law_wr (R : List Int) : WrOk (lawM R) where
  sm := law_sm R
  l1 := (law_f1 R).l6
  l2 := (law_f2 R).l6
  n := by
    have j6 := law_j6 R
    have c8 := caps_len R
    have b3 := beside_len R
    have hj : ∀ n ∈ (lawArm R).joints.flatMap jointN, Tn n := flat_tn fun k hk => joint_tn (law_jv R k hk)
    have hc : ∀ n ∈ (lawArm R).caps.flatMap capN, Tn n := flat_tn fun k hk => by
      rw [caps_len] at hk
      rw [caps_at R hk]
      refine cons_tn ?_ (body_tn (lawBody_valid _))
      have h1 := link_le (R.getD (13 + k) 0) (lawMany R)
      have h2 := (many_in R).2
      exact tn_of (by dsimp only; omega) (by dsimp only; omega)
    have hb : ∀ n ∈ (lawArm R).beside.flatMap pairN, Tn n := flat_tn fun k hk => by
      rw [beside_len] at hk
      rw [beside_at R hk]
      obtain ⟨a, b⟩ := mod_in (a := R.getD (21 + k) 0) (m := 4) (by decide)
      obtain ⟨c, d⟩ := mod_in (a := R.getD (21 + k) 0 / 4) (m := 4) (by decide)
      exact cons_tn (tn_of (by dsimp only; omega) (by dsimp only; omega)) (cons_tn (tn_of (by dsimp only; omega) (by dsimp only; omega)) (by simp))
    have ha : ∀ n ∈ armN (lawArm R), Tn n := app_tn (app_tn (cons_tn (tn_of (by omega) (by omega)) hj) (cons_tn (tn_of (by omega) (by omega)) hc)) (cons_tn (tn_of (by omega) (by omega)) hb)
    have hf : ∀ n ∈ lFirst R, Tn n := row_tn (fits_rng (law_jv R) (law_f1 R))
    have hl : ∀ n ∈ lLast R, Tn n := row_tn (fits_rng (law_jv R) (law_f2 R))
    have hh : ∀ n ∈ [heldB].flatMap bodyN, Tn n := by unfold Tn; decide
    exact cons_tn (tn_of (by decide) (by decide)) (app_tn (app_tn (app_tn ha hf) hl) (cons_tn (a := 1) (tn_of (by decide) (by decide)) hh))
/-! The law's arm. -/
theorem ints_atI {ns : List Int} {k : Nat} {c : Int} (hc : c = (k : Int)) (h : k < ns.length) : atI (ns.map V.int) c = some (.int (ns.getD k 0)) := by
  rw [hc]
  exact ints_at h
section
variable {P : Program} {w : World} {K : PySem.W.Frag} {mg : Str → Option Value} {base : Heap}
def sp_l_arm (K : PySem.W.Frag) : Sp := fun vs H Q _ => ∃ (l : Addr) (R : List Int), vs = [.ref l] ∧ SqL K H l (R.map V.int) ∧ R.length = 32 ∧ Ret (ArmAt K (lawArm R)) H Q
theorem ok_l_arm (T : Tx K mg) : FnOk P w K mg base CX0 5 (He.fAd K d_l_arm.at_) (fd_l_arm T) ["_law_rows_here"] (sp_l_arm K) := by
  refine (F_l_arm T).ok sc_l_arm (fun vs H Q E h => ?_) (fun cdv A outer s H vs Q E hr h => ?_)
  · obtain ⟨l, R, rfl, _⟩ := h
    rfl
  · obtain ⟨l, R, rfl, hR, hl, k⟩ := h
    obtain ⟨m5, m6⟩ := many_in R
    have mc := many_cast R
    refine ⟨_, PSs.nox (pss_cons (ps_set (i := 1) sc_l_arm.nd rfl (Or.inr rfl) (pe_op op_add pe_int (pe_op op_mod (pe_callTy k_int1 rfl (gf_int T) (by decide +kernel) (pa_cons (pe_ix (ix_listK (K := K)) (pv 0) pe_int (fun _ _ => rfl)) pa_nil)) pe_int)))
      (pss_cons (ps_setLc (i := 2) (own := [("_law_k", 5)]) (g := (gName 5)) (tt := tYes) rfl sc_l_arm.nd rfl rfl (sw_true rfl rfl rfl (by decide +kernel)) (pi_range1 rfl (gf_range T) (pa_cons (pv 1) pa_nil)) (blkOk_by (own := [("_law_k", 5)]) (N := ["_law_rows_here", "_law_many", "_law_joints", "_law_capsules", "_law_beside", "_law_k"]) (sc := defScope s_l_arm) (by decide +kernel)) (fun _ _ _ _ _ => (pg_name (i := 5) sc_l_arm.nd rfl (Or.inl rfl))) (fun _ _ _ _ _ => pts_nil) (fun _ _ _ _ _ => (pe_call (ok_l_joint T) (hr.mono (by decide)) rfl (g_l_joint T) (F_l_joint T).kp (b_l_joint T) .nil pass0 (pa_cons (pe_ix (ix_listK (K := K)) (pv 0) (pe_op op_add pe_int (pv 5)) (fun _ _ => rfl)) (pa_cons (pe_op op_mod (pe_callTy k_int1 rfl (gf_int T) (by decide +kernel) (pa_cons (pe_ix (ix_listK (K := K)) (pv 0) (pe_op op_add pe_int (pv 5)) (fun _ _ => rfl)) pa_nil)) pe_int) pa_nil)))))
      (pss_cons (ps_setLc (i := 3) (own := [("_law_k", 5)]) (g := (gName 5)) (tt := tYes) rfl sc_l_arm.nd rfl rfl (sw_true rfl rfl rfl (by decide +kernel)) (pi_range1 rfl (gf_range T) (pa_cons pe_int pa_nil)) (blkOk_by (own := [("_law_k", 5)]) (N := ["_law_rows_here", "_law_many", "_law_joints", "_law_capsules", "_law_beside", "_law_k"]) (sc := defScope s_l_arm) (by decide +kernel)) (fun _ _ _ _ _ => (pg_name (i := 5) sc_l_arm.nd rfl (Or.inl rfl))) (fun _ _ _ _ _ => pts_nil) (fun _ _ _ _ _ => (pe_call (ok_l_capsule T) (hr.mono (by decide)) rfl (g_l_capsule T) (F_l_capsule T).kp (b_l_capsule T) .nil pass0 (pa_cons (pe_ix (ix_listK (K := K)) (pv 0) (pe_op op_add pe_int (pv 5)) (fun _ _ => rfl)) (pa_cons (pv 1) pa_nil)))))
      (pss_cons (ps_setLc (i := 4) (own := [("_law_k", 5)]) (g := (gName 5)) (tt := tYes) rfl sc_l_arm.nd rfl rfl (sw_true rfl rfl rfl (by decide +kernel)) (pi_range1 rfl (gf_range T) (pa_cons pe_int pa_nil)) (blkOk_by (own := [("_law_k", 5)]) (N := ["_law_rows_here", "_law_many", "_law_joints", "_law_capsules", "_law_beside", "_law_k"]) (sc := defScope s_l_arm) (by decide +kernel)) (fun _ _ _ _ _ => (pg_name (i := 5) sc_l_arm.nd rfl (Or.inl rfl))) (fun _ _ _ _ _ => pts_nil) (fun _ _ _ _ _ => (pe_tup (pa_cons (pe_op op_mod (pe_callTy k_int1 rfl (gf_int T) (by decide +kernel) (pa_cons (pe_ix (ix_listK (K := K)) (pv 0) (pe_op op_add pe_int (pv 5)) (fun _ _ => rfl)) pa_nil)) pe_int) (pa_cons (pe_op op_add pe_int (pe_op op_mod (pe_callTy k_int1 rfl (gf_int T) (by decide +kernel) (pa_cons (pe_op op_fdiv (pe_ix (ix_listK (K := K)) (pv 0) (pe_op op_add pe_int (pv 5)) (fun _ _ => rfl)) pe_int) pa_nil)) pe_int)) pa_nil)))))
      (pss_one (ps_ret (pe_makeK (M_Arm T) (ok_Arm_init T) (hr.mono (by decide)) rfl (g_Arm T) (kb_Arm_init_1 T).choose_spec pass0 (pa_cons (pv 2) (pa_cons (pv 3) pa_nil)) (pk_cons (pv 4) pk_nil)))))))), ?_⟩
    walk_at "n0"
    refine EvS.go ?_
    have r0 := ints_atI (ns := R) (k := 0) (c := 0) rfl (by omega)
    refine z_asg (v := .int (lawMany R : Int)) (ev_is (by walk_at "ev") (congrArg V.int mc.symm)) ?_
    walk_at "nf"
    refine z_asgP (ep_lcRp (K := K) (n := (lawMany R : Int)) (fun k => JointAt K ((lawArm R).joints.getD k default)) (fun _ => z_Joint T _) (by walk_at "ea") (by omega) (fun _ => rfl) fun i hi => ?_) fun v H1 e1 hv => ?_
    · have hi2 : i < lawMany R := by omega
      have a1 := ints_atI (ns := R) (k := 1 + i) (c := 1 + (i : Int)) (by omega) (by omega)
      have a2 := ints_atI (ns := R) (k := 7 + i) (c := 7 + (i : Int)) (by omega) (by omega)
      obtain ⟨q1, q2⟩ := mod_in (a := R.getD (7 + i) 0) (m := 900) (by decide)
      rw [joints_at R hi2]
      walk_at "nf"
      exact ep_ljoint T (by walk_at "ev") (by walk_at "ev") q1 q2
    have hv : LsP (lawArm R).joints.length (fun k => JointAt K ((lawArm R).joints.getD k default)) v H1 := by
      rw [joints_len]
      exact hv
    have hR := ex_l e1 hR
    walk_at "nf"
    refine z_asgP (ep_lcRp (K := K) (n := 8) (fun k => CapAt K ((lawArm R).caps.getD k default)) (fun _ => z_Cap T _) (by walk_at "ea") (by decide) (fun _ => rfl) fun i hi => ?_) fun u H2 e2 hu => ?_
    · have hi2 : i < 8 := by omega
      have a1 := ints_atI (ns := R) (k := 13 + i) (c := 13 + (i : Int)) (by omega) (by omega)
      rw [caps_at R hi2]
      walk_at "nf"
      exact ep_lcapsule T (by walk_at "ev") (by walk_at "ev")
    have hu : LsP (lawArm R).caps.length (fun k => CapAt K ((lawArm R).caps.getD k default)) u H2 := by
      rw [caps_len]
      exact hu
    have hR := ex_l e2 hR
    walk_at "nf"
    refine z_asgP (ep_lcRp (K := K) (n := 3) (fun k => PairAt K ((lawArm R).beside.getD k default)) (fun _ => z_Pair _) (by walk_at "ea") (by decide) (fun _ => rfl) fun i hi => ?_) fun w H3 e3 hw => ?_
    · have hi2 : i < 3 := by omega
      have a1 := ints_atI (ns := R) (k := 21 + i) (c := 21 + (i : Int)) (by omega) (by omega)
      rw [beside_at R hi2]
      walk_at "nf"
      exact EvP.weak (ep_tupV (by walk_at "ea") (Nat.le_of_ble_eq_true rfl)) fun v H5 _ h => h.rd
    have hw : LsP (lawArm R).beside.length (fun k => PairAt K ((lawArm R).beside.getD k default)) w H3 := by
      rw [beside_len]
      exact hw
    have hv := up_lsP (fun _ => (z_Joint T _).up) _ _ _ (e2.trans e3) hv
    have hu := up_lsP (fun _ => (z_Cap T _).up) _ _ _ e3 hu
    obtain ⟨lj, rfl, hj⟩ := hv.rl
    obtain ⟨lc, rfl, hc⟩ := hu.rl
    obtain ⟨lb, rfl, hb⟩ := hw.rl
    walk_at "nf"
    refine z_ret (ep_makeK (P := ArmAt K (lawArm R)) (vs := [.ref lj, .ref lc]) (zs := [.ref lb]) (by walk_at "ea") (by walk_at "ea") rfl rfl fun H6 e6 x dx nx nd ne Q k E => ?_) (k.mono ((e1.trans e2).trans e3))
    exact ⟨lawArm R, lj, lc, lb, x, dx, H6, rfl, made_ex nx nd, nx, upd_same, hj.up (fun _ => (z_Joint T _).up) e6, hc.up (fun _ => (z_Cap T _).up) e6, hb.up (fun _ => (z_Pair _).up) e6, (law_av R).a, k⟩
end
/-- the law's own comparison -/
theorem law_near (R : List Int) {n : Nat} (hn : n ≤ (lawArm R).joints.length) {b : BodyD} {v : I3} (hv : v = b.first ∨ v = b.last) :
    let p := trueM (lawArm R).joints (lVals R) (lOffs R) n v.p4
    let s := spotM (lawArm R).joints (lMid R) n v
    (p.x - s.x * p.w) ^ 2 + (p.y - s.y * p.w) ^ 2 + (p.z - s.z * p.w) ^ 2 ≤ (unkM lenUp (lawArm R).joints (lHs R) n b * p.w) ^ 2 := by
  have h := bound_ok (L := lenUp) lenUp_ok (js := (lawArm R).joints) (hs := lHs R) (row := lMid R) (vals := lVals R) (offs := lOffs R) (n := n) (b := b) (v := v) hv hn (by rw [mid_len]; exact hn) fun k hk => law_within R k (by omega)
  intro p s
  have e : ∀ a : Int, a ^ 2 = a * a := fun a => by rw [Int.pow_succ, Int.pow_succ, Int.pow_zero, Int.one_mul]
  rw [e, e, e, e]
  exact h
theorem law_same (R : List Int) {n : Nat} (hn : n ≤ (lawArm R).joints.length) (v : I3) :
    let p := trueM (lawArm R).joints (lVals R) (lOffs R) n v.p4
    let q := dueM (lawArm R).joints (lVals R) (lOffs R) n v.p4
    p.x * q.w = q.x * p.w ∧ p.y * q.w = q.y * p.w ∧ p.z * q.w = q.z * p.w := true_due fun k hk => ⟨(law_tp R hn).vp k hk, (law_tp R hn).ow k hk⟩
/-! What the law asks of its objects. -/
section
variable {K : PySem.W.Frag} {σ : L2.St} {H H' H2 : Hp} {ta tb tc td te tf to tl : TE} {t : TT} {x y v z : V} {tr : TA} {vs ws xs zs : List V} {D : Ends} {tu tw tz : TS} {l : Addr} {m : Nat} {b : Bool} {P P' : VP} {i n : Nat}
theorem ints_dp : ∀ ns : List Int, DpAll K H (ns.map V.int) (ns.map PyData.int)
  | [] => .nil
  | n :: r => .cons (.int n) (ints_dp r)
theorem ints_lay : ∀ ns : List Int, PyData.canLayAll0 (ns.map PyData.int) = true
  | [] => rfl
  | n :: r => by simp [PyData.canLayAll0, PyData.canLay0, ints_lay r]
theorem ints_dep : ∀ ns : List Int, PyData.depthAll (ns.map PyData.int) ≤ 1
  | [] => by simp [PyData.depthAll]
  | n :: r => by
    have := ints_dep r
    simp only [List.map_cons, PyData.depthAll, PyData.depth]
    omega
theorem ints_shaped (ns : List Int) : SeqAt.shaped (.list (ns.map PyData.int)) = true := by
  have h := ints_dep ns
  simp [SeqAt.shaped, PyData.canLay0, ints_lay, PyData.depth]
  omega
theorem ints_eqv : ∀ ns : List Int, PyData.eqvAll (ns.map PyData.int) (ns.map PyData.int) = true
  | [] => rfl
  | n :: r => by simp [PyData.eqvAll, PyData.eqv, ints_eqv r]
theorem ev_neDI {ns : List Int} (ha : EvP ta σ H (IsL (ns.map V.int))) (hb : EvP tb σ H (IsL (ns.map V.int))) : Ev (tOp (rNeD K) ta tb) σ H (.bl false) := fun H1 e Q q =>
  ha H1 e _ fun v H2 e2 hv => hb H2 (e.trans e2) _ fun u H3 e3 hu => by
    obtain ⟨p, rfl, hp⟩ := hv
    obtain ⟨r, rfl, hr⟩ := hu
    refine ⟨_, _, .lst (sq_of (e3 _ _ hp)) (ints_dp ns), .lst (sq_of hr) (ints_dp ns), ints_shaped ns, ints_shaped ns, ?_⟩
    have e1 : PyData.eqv (.list (ns.map PyData.int)) (.list (ns.map PyData.int)) = true := by
      simp only [PyData.eqv]
      exact ints_eqv ns
    rw [e1]
    exact q H3 (e2.trans e3)
def PairsV (K : PySem.W.Frag) (ps : List (Int × Int)) : VP := fun v H => ∃ l zs, v = .ref l ∧ H l = some (.lst zs) ∧ Items K zs ps H
theorem up_pairs {ps : List (Int × Int)} : Up (PairsV K ps) := fun v _ _ e ⟨l, zs, r, h, it⟩ => ⟨l, zs, r, e _ _ h, it.mz (Ex.z e)⟩
theorem pairsV_dp {ps : List (Int × Int)} (h : PairsV K ps v H) : Dp K H v (.list (ps.map pD)) := by
  obtain ⟨l, zs, rfl, h1, h2, h3⟩ := h
  exact .lst (sq_of h1) (pairs_dp h2 h3)
theorem ev_neDP {ps : List (Int × Int)} (ha : EvP ta σ H (PairsV K ps)) (hb : EvP tb σ H (PairsV K ps)) : Ev (tOp (rNeD K) ta tb) σ H (.bl false) := fun H1 e Q q =>
  ha H1 e _ fun v H2 e2 hv => hb H2 (e.trans e2) _ fun u H3 e3 hu => by
    refine ⟨_, _, pairsV_dp (up_pairs _ _ _ e3 hv), pairsV_dp hu, pD_shapedL ps, pD_shapedL ps, ?_⟩
    rw [pD_refl]
    exact q H3 (e2.trans e3)
theorem ev_eqDP {ps : List (Int × Int)} (ha : EvP ta σ H (PairsV K ps)) (hb : EvP tb σ H (PairsV K ps)) : Ev (tOp (rEqD K) ta tb) σ H (.bl true) := fun H1 e Q q =>
  ha H1 e _ fun v H2 e2 hv => hb H2 (e.trans e2) _ fun u H3 e3 hu => by
    refine ⟨_, _, pairsV_dp (up_pairs _ _ _ e3 hv), pairsV_dp hu, pD_shapedL ps, pD_shapedL ps, ?_⟩
    rw [pD_refl]
    exact q H3 (e2.trans e3)
/-- for k in range(n): nothing that is known changes -/
theorem z_forS {ta : TA} {j : Nat} {n : Int} (h : EvA ta σ H [.int n]) (h0 : 0 ≤ n ∧ n ≤ 100000) (I : L2.St → Prop) (i0 : I σ)
    (hs : ∀ (i : Nat) σ', (i : Int) < n → I σ' → ∀ (N : L2.St → Hp → Prop) (B : L2.St → Hp → Prop), (∀ σ2 H1, Ex H H1 → I σ2 → N σ2 H1) → EvS tu { D with nx := N, ct := N, bk := B } (σ'.set j (some (.int (i : Int)))) H)
    (k : ∀ σ', I σ' → EvS tz D σ' H) : EvS (tSeq (tFor (iRng1 ta) (gName j) tu) tz) D σ H := fun H1 e => by
  refine q_forR1 (h.mono e) h0 (fun i σ' H' => I σ' ∧ Ex H H') (fun H2 e2 => ⟨i0, e.trans e2⟩) (fun i σ' H' hi p => ?_) (fun σ' H' p => ?_)
  · exact hs i σ' hi p.1 _ _ (fun σ2 H2 e2 i2 => ⟨i2, e2⟩) H' p.2
  · exact k σ' p.1 H' p.2
/-- for x in (a, b): as the last -/
theorem z_forTu {j : Nat} (h : EvP tl σ H (IsT xs)) (I : L2.St → Prop) (i0 : I σ)
    (hs : ∀ (i : Nat) y σ' H2, Ex H H2 → xs[i]? = some y → I σ' → ∀ (N : L2.St → Hp → Prop) (B : L2.St → Hp → Prop), (∀ σ2 H1, Ex H2 H1 → I σ2 → N σ2 H1) → EvS tu { D with nx := N, ct := N, bk := B } (σ'.set j (some y)) H2)
    (k : ∀ σ' H1, Ex H H1 → I σ' → D.nx σ' H1) : EvS (tFor (iTup K tl) (gName j) tu) D σ H := fun H1 e =>
  h H1 e _ fun v H2 e2 hv => by
    obtain ⟨a, rfl, ha⟩ := hv
    refine ⟨a, rfl, ⟨xs, st_of ha⟩, for_tup (xs := xs) (fun i σ' H' => I σ' ∧ Ex H2 H') ⟨i0, Ex.refl H2⟩ (fun i σ' H' _ p => ex_t p.2 (st_of ha)) (fun i y σ' H' hi p => ?_) (fun σ' H' p => ?_)⟩
    · exact hs i y σ' H' ((e.trans e2).trans p.2) hi p.1 _ _ (fun σ2 H3 e3 i2 => ⟨i2, p.2.trans e3⟩) H' (Ex.refl H')
    · exact k σ' H' ((e.trans e2).trans p.2) p.1
theorem ep_tup1 (h : EvP te σ H P) (hP : Up P) : EvP (tTup (tCons te tNil)) σ H (fun v H1 => ∃ p x, v = .ref p ∧ H1 p = some (.tup [x]) ∧ P x H1) := fun H1 e Q q =>
  h H1 e _ fun x H2 e2 px => ⟨sz_of (Nat.le_of_ble_eq_true rfl), fun p hp => q _ _ (e2.trans (Ex.new hp)) ⟨p, x, rfl, upd_same, hP _ _ _ (Ex.new hp) px⟩⟩
end
section
variable {P : Program} {w : World} {K : PySem.W.Frag} {mg : Str → Option Value} {base : Heap}
theorem ep_pairs (T : Tx K mg) {σ : L2.St} {H : Hp} {ta : TE} {mv : V} {M : MoverD} {E : XK} (ha : Ev ta σ H mv) (hM : MatterAt K M mv H) (s : MSm M) :
    EvP (tMeth (He.ga K "Matter") "pairs" (sp_Matter_pairs K) [] E ta tNil) σ H (PairsV K (pairsM (linksM M) M.arm.beside)) := by
  obtain ⟨a, dx, mo, rfl, hi, _⟩ := id hM
  exact ep_meth ha hi rfl epa_nil fun vs H1 e hvs Q k E => by
    subst hvs
    exact ⟨_, M, rfl, z_Matter T M _ _ _ (Ex.z e) hM, s, k⟩
theorem ep_halves (T : Tx K mg) {σ : L2.St} {H : Hp} {ta tb : TE} {mv : V} {f l : List Int} {d : Nat} {E : XK} (ha : Ev ta σ H mv) (hb : Ev tb σ H (.int (d : Int))) (hM : MoveAt K f l mv H) (hd : d ≤ 20) (hl : f.length = l.length) (h6 : f.length ≤ 6) :
    EvP (tMeth (He.ga K "Move") "halves" (sp_Move_halves K) [] E ta (tCons tb tNil)) σ H (IsL ((halvesM f l d).map V.int)) := by
  obtain ⟨a, dx, t1, t2, rfl, hi, _⟩ := id hM
  exact ep_meth ha hi rfl (epa1 hb epa_nil) fun vs H1 e hvs Q k E => by
    obtain ⟨_, rfl, rfl⟩ := hvs
    exact ⟨_, f, l, d, rfl, z_Move T _ _ _ _ _ (Ex.z e) hM, hd, hl, h6, k⟩
theorem ep_middle (T : Tx K mg) {σ : L2.St} {H : Hp} {ta tb : TE} {mv : V} {f l : List Int} {d : Nat} {c : Int} {E : XK} (ha : Ev ta σ H mv) (hb : EvP tb σ H (IsT [.int (d : Int), .int c])) (hM : MoveAt K f l mv H) (hl : f.length = l.length) (s1 : RowSm f) (s2 : RowSm l) :
    EvP (tMeth (He.ga K "Move") "middle" (sp_Move_middle K) [] E ta (tCons tb tNil)) σ H (IsL ((midM f l d c).map V.int)) := by
  obtain ⟨a, dx, t1, t2, rfl, hi, _⟩ := id hM
  exact ep_meth ha hi rfl (epaP hb up_isT epa_nil) fun vs H1 e hvs Q k E => by
    obtain ⟨_, _, rfl, ⟨p, rfl, hp⟩, rfl⟩ := hvs
    exact ⟨_, f, l, p, d, c, rfl, z_Move T _ _ _ _ _ (Ex.z e) hM, st_of hp, hl, s1, s2, k⟩
theorem ep_unknowns (T : Tx K mg) {σ : L2.St} {H : Hp} {ta tb : TE} {mv : V} {M : MoverD} {hs : List Int} {E : XK} (ha : Ev ta σ H mv) (hb : EvP tb σ H (IsL (hs.map V.int))) (hM : MoverAt K M mv H) (s : MSm M)
    (ok : ∀ i, i < (blsM M).length → UkOk M.arm.joints hs ((blsM M).getD i default).1 ∧ Sm ((blsM M).getD i default).2.first ∧ Sm ((blsM M).getD i default).2.last) :
    EvP (tMeth (He.ga K "Mover") "unknowns" (sp_Mover_unknowns K) [] E ta (tCons tb tNil)) σ H (IsL ((List.range (blsM M).length).map fun i => V.int (unkM lenUp M.arm.joints hs ((blsM M).getD i default).1 ((blsM M).getD i default).2))) := by
  obtain ⟨a, dx, av, mo, th, rfl, hi, _⟩ := id hM
  exact ep_meth ha hi rfl (epaP hb up_isL epa_nil) fun vs H1 e hvs Q k E => by
    obtain ⟨_, _, rfl, ⟨p, rfl, hp⟩, rfl⟩ := hvs
    exact ⟨_, M, p, hs, rfl, z_Mover T _ _ _ _ (Ex.z e) hM, s, sq_of hp, ok, k⟩
theorem ep_bound (T : Tx K mg) {σ : L2.St} {H : Hp} {ta tb tc td : TE} {av bv : V} {A : ArmD} {hs : List Int} {n : Nat} {b : BodyD} {E : XK} (ha : Ev ta σ H av) (hb : EvP tb σ H (IsL (hs.map V.int))) (hc : Ev tc σ H (.int (n : Int))) (hd : Ev td σ H bv)
    (hA : ArmAt K A av H) (hB : BodyAt K b bv H) (s1 : Sm b.first) (s2 : Sm b.last) (ok : UkOk A.joints hs n) : EvP (tCall (sp_unknown K) [] E (tCons ta (tCons tb (tCons tc (tCons td tNil))))) σ H (fun v _ => v = .int (unkM lenUp A.joints hs n b)) :=
  ep_callA (epa1 ha (epaP hb up_isL (epa1 hc (epa1 hd epa_nil)))) fun vs H1 e hvs Q k E => by
    obtain ⟨_, rfl, _, _, rfl, ⟨p, rfl, hp⟩, _, rfl, _, rfl, rfl⟩ := hvs
    exact ⟨av, bv, p, A, hs, n, b, rfl, z_Arm T _ _ _ _ (Ex.z e) hA, sq_of hp, z_Body T _ _ _ _ (Ex.z e) hB, s1, s2, ok, k⟩
theorem ep_write (T : Tx K mg) {σ : L2.St} {H : Hp} {ta : TE} {mv : V} {M : MoverD} {E : XK} (ha : Ev ta σ H mv) (hM : MatterAt K M mv H) (ok : WrOk M) :
    Ev (tCall (sp_write_certificate K) [] E (tCons ta (tCons (tTup (tCons (tC (.str "leaf")) (tCons (tTup tNil) tNil))) tNil))) σ H (.str (certM M)) := by
  refine ev_of (ep_callA (epa1 ha (epaP (P := TreeAt K) (fun H1 e Q q => ?_) z_Tree.up epa_nil)) fun vs H1 e hvs Q k E => ?_)
  · refine ⟨sz_of (Nat.le_of_ble_eq_true rfl), fun t ht => ⟨sz_of (Nat.le_of_ble_eq_true rfl), fun u hu => ?_⟩⟩
    exact q _ _ ((Ex.new ht).trans (Ex.new hu)) ⟨u, t, rfl, st_of upd_same, st_of ((Ex.new hu) _ _ upd_same)⟩
  · obtain ⟨_, rfl, tv, _, rfl, ht, rfl⟩ := hvs
    exact ⟨mv, tv, M, rfl, z_Matter T _ _ _ _ (Ex.z e) hM, ht, ok, k⟩
/-- what stands when the law begins to compare -/
structure LF (K : PySem.W.Frag) (R : List Int) (av mo mv : V) (tj vl ol bl ml lo : Addr) (H : Hp) : Prop where
  fA : ArmAt K (lawArm R) av H
  fJ : RTp K (lawArm R).joints.length (fun i => JointAt K ((lawArm R).joints.getD i default)) tj H
  fMo : MoveAt K (lFirst R) (lLast R) mo H
  fMv : MoverAt K (lawM R) mv H
  fV : RLp K (lVals R).length (fun i => FracAt K ((lVals R).getD i default)) vl H
  fO : RLp K (lOffs R).length (fun i => PlaceAt K ((lOffs R).getD i default)) ol H
  fB : LsP 9 (fun i => LbAt K ((blsM (lawM R)).getD i default)) (.ref bl) H
  fM : SqL K H ml ((lMid R).map V.int)
  fL : SqL K H lo ((List.range 9).map fun i => V.int (unkM lenUp (lawArm R).joints (lHs R) ((blsM (lawM R)).getD i default).1 ((blsM (lawM R)).getD i default).2))
theorem LF.up (T : Tx K mg) {R : List Int} {av mo mv : V} {tj vl ol bl ml lo : Addr} {H H' : Hp} (h : LF K R av mo mv tj vl ol bl ml lo H) (e : Ex H H') : LF K R av mo mv tj vl ol bl ml lo H' :=
  ⟨z_Arm T _ _ _ _ (Ex.z e) h.fA, h.fJ.z (fun _ => z_Joint T _) (Ex.z e), z_Move T _ _ _ _ _ (Ex.z e) h.fMo, z_Mover T _ _ _ _ (Ex.z e) h.fMv, h.fV.up (fun _ => upz_rdT.up) e, h.fO.up (fun _ => upz_rdT.up) e, up_lsP (fun _ => (z_Lb T _).up) _ _ _ e h.fB, ex_l e h.fM, ex_l e h.fL⟩
theorem range9_at {f : Nat → V} {i : Nat} (h : i < 9) : atI ((List.range 9).map f) (i : Int) = some (f i) := by
  refine atI_nat ?_
  simp [h]
end
/-! The law. -/
section
variable {P : Program} {w : World} {K : PySem.W.Frag} {mg : Str → Option Value} {base : Heap}
def sp_law (K : PySem.W.Frag) : Sp := fun vs H Q _ => ∃ (l : Addr) (xs : List Int), vs = [.ref l] ∧ SqL K H l (xs.map V.int) ∧ xs.length ≤ 100000 ∧ Ret (fun v _ => v = .bl true) H Q
theorem ok_law (T : Tx K mg) : FnOk P w K mg base CX0 10 (He.fAd K d_law.at_) (fd_law T) ["_law_script"] (sp_law K) := by
  refine (F_law T).ok sc_law (fun vs H Q E h => ?_) (fun cdv A outer s H vs Q E hr h => ?_)
  · obtain ⟨l, xs, rfl, _⟩ := h
    rfl
  · obtain ⟨l, xs, rfl, hl, hz, k⟩ := h
    refine ⟨_, PSs.nox (pss_cons (ps_set (i := 1) sc_law.nd rfl (Or.inl rfl) (pe_call (ok_l_rows T) (hr.mono (by decide)) rfl (g_l_rows T) (F_l_rows T).kp (b_l_rows T) .nil pass0 (pa_cons (pv 0) (pa_cons pe_int pa_nil))))
      (pss_cons (ps_set (i := 2) sc_law.nd rfl (Or.inl rfl) (pe_call (ok_l_arm T) (hr.mono (by decide)) rfl (g_l_arm T) (F_l_arm T).kp (b_l_arm T) .nil pass0 (pa_cons (pv 1) pa_nil)))
      (pss_cons (ps_set (i := 3) sc_law.nd rfl (Or.inl rfl) (pe_fldK (K := K) (pv 2) rfl))
      (pss_cons (ps_set (i := 4) sc_law.nd rfl (Or.inl rfl) (pe_callB (k_lenK (K := K)) rfl (gf_len T) PySem.boot_len (pa_cons (pv 3) pa_nil)))
      (pss_cons (ps_set (i := 5) sc_law.nd rfl (Or.inl rfl) (pe_call (ok_l_values T) (hr.mono (by decide)) rfl (g_l_values T) (F_l_values T).kp (b_l_values T) .nil pass0 (pa_cons (pv 3) (pa_cons (pe_ix (ix_listK (K := K)) (pv 1) pe_int (fun _ _ => rfl)) pa_nil))))
      (pss_cons (ps_set (i := 6) sc_law.nd rfl (Or.inl rfl) (pe_call (ok_l_values T) (hr.mono (by decide)) rfl (g_l_values T) (F_l_values T).kp (b_l_values T) .nil pass0 (pa_cons (pv 3) (pa_cons (pe_ix (ix_listK (K := K)) (pv 1) pe_int (fun _ _ => rfl)) pa_nil))))
      (pss_cons (ps_set (i := 7) sc_law.nd rfl (Or.inl rfl) (pe_make (M_Move T) (ok_Move_init T) (hr.mono (by decide)) rfl (g_Move T) (b_Move_init T) .nil pass0 (pa_cons (pv 2) (pa_cons (pv 5) (pa_cons (pv 6) pa_nil)))))
      (pss_cons (ps_set (i := 8) sc_law.nd rfl (Or.inl rfl) (pe_op op_mod (pe_callTy k_int1 rfl (gf_int T) (by decide +kernel) (pa_cons (pe_ix (ix_listK (K := K)) (pv 1) pe_int (fun _ _ => rfl)) pa_nil)) pe_int))
      (pss_cons (ps_set (i := 9) sc_law.nd rfl (Or.inl rfl) (pe_op op_mod (pe_callTy k_int1 rfl (gf_int T) (by decide +kernel) (pa_cons (pe_op op_fdivW (pe_ix (ix_listK (K := K)) (pv 1) pe_int (fun _ _ => rfl)) pe_int) pa_nil)) (pe_op op_shl pe_int (pv 8))))
      (pss_cons (ps_set (i := 10) sc_law.nd rfl (Or.inl rfl) (pe_op op_add pe_int (pe_op op_mod (pe_callTy k_int1 rfl (gf_int T) (by decide +kernel) (pa_cons (pe_ix (ix_listK (K := K)) (pv 1) pe_int (fun _ _ => rfl)) pa_nil)) pe_int)))
      (pss_cons (ps_set (i := 11) sc_law.nd rfl (Or.inl rfl) (pe_tup (pa_cons (pe_op op_add (pe_op op_mulW (pv 9) (pv 10)) (pe_op op_mod (pe_callTy k_int1 rfl (gf_int T) (by decide +kernel) (pa_cons (pe_op op_fdivW (pe_ix (ix_listK (K := K)) (pv 1) pe_int (fun _ _ => rfl)) pe_int) pa_nil)) (pe_op op_add (pv 10) pe_int))) (pa_cons (pe_op op_mulW (pv 10) (pe_op op_shl pe_int (pv 8))) pa_nil))))
      (pss_cons (ps_set (i := 12) sc_law.nd rfl (Or.inl rfl) (pe_call (ok_l_meant T) (hr.mono (by decide)) rfl (g_l_meant T) (F_l_meant T).kp (b_l_meant T) .nil pass0 (pa_cons (pv 3) (pa_cons (pv 5) (pa_cons (pv 6) (pa_cons (pv 11) (pa_cons (pe_ix (ix_listK (K := K)) (pv 1) pe_int (fun _ _ => rfl)) pa_nil)))))))
      (pss_cons (ps_set (i := 13) sc_law.nd rfl (Or.inl rfl) (pe_call (ok_l_offsets T) (hr.mono (by decide)) rfl (g_l_offsets T) (F_l_offsets T).kp (b_l_offsets T) .nil pass0 (pa_cons (pv 3) (pa_cons (pe_ix (ix_listK (K := K)) (pv 1) pe_int (fun _ _ => rfl)) pa_nil))))
      (pss_cons (ps_set (i := 14) sc_law.nd rfl (Or.inl rfl) (pe_make (M_Mover T) (ok_Mover_init T) (hr.mono (by decide)) rfl (g_Mover T) (b_Mover_init T) .nil pass0 (pa_cons (pv 2) (pa_cons (pv 7) (pa_cons (pe_tup (pa_cons (pe_make (M_Body T) (ok_Body_init T) (hr.mono (by decide)) rfl (g_Body T) (b_Body_init T) .nil pass0 (pa_cons (pe_tup (pa_cons pe_int (pa_cons pe_int (pa_cons pe_int pa_nil)))) (pa_cons (pe_tup (pa_cons pe_int (pa_cons pe_int (pa_cons pe_int pa_nil)))) (pa_cons pe_int pa_nil)))) pa_nil)) pa_nil)))))
      (pss_cons (ps_set (i := 15) sc_law.nd rfl (Or.inl rfl) (pe_meth0 (pv 14) (c_Mover T) (m_Mover_bodies T) (ok_Mover_bodies T) (hr.mono (by decide)) (b_Mover_bodies T) .nil pass0))
      (pss_cons (ps_if (PW.pt (pw_or (pt_cmpR op_ne (pe_callB (k_lenK (K := K)) rfl (gf_len T) PySem.boot_len (pa_cons (pv 15) pa_nil)) pe_int (nomark _)) (pw_or1 (pt_cmpR op_ne (pe_ix (ix_tupK (K := K)) (pe_ix (ix_listK (K := K)) (pv 15) pe_int (fun _ _ => rfl)) pe_int (fun _ _ => rfl)) (pv 4) (nomark _))))) (pss_one (ps_ret pe_bl)) pss_nil)
      (pss_cons (ps_set (i := 16) sc_law.nd rfl (Or.inl rfl) (pe_meth (pv 7) (c_Move T) (m_Move_middle T) (ok_Move_middle T) (hr.mono (by decide)) (b_Move_middle T) .nil pass0 (pa_cons (pe_tup (pa_cons (pv 8) (pa_cons (pv 9) pa_nil))) pa_nil)))
      (pss_cons (ps_set (i := 17) sc_law.nd rfl (Or.inl rfl) (pe_meth (pv 14) (c_Mover T) (m_Mover_unknowns T) (ok_Mover_unknowns T) (hr.mono (by decide)) (b_Mover_unknowns T) .nil pass0 (pa_cons (pe_meth (pv 7) (c_Move T) (m_Move_halves T) (ok_Move_halves T) (hr.mono (by decide)) (b_Move_halves T) .nil pass0 (pa_cons (pv 8) pa_nil)) pa_nil)))
      (pss_cons (ps_for PassesOwn.never rfl (pi_range1 rfl (gf_range T) (pa_cons pe_int pa_nil)) (pg_name (i := 18) sc_law.nd rfl (Or.inl rfl)) (pss_cons (ps_asg (pe_ix (ix_listK (K := K)) (pv 15) (pv 18) (fun _ _ => rfl)) (pg_tupK (K := K) rfl (pgs_cons (pg_name (i := 19) sc_law.nd rfl (Or.inl rfl)) (pgs_cons (pg_name (i := 20) sc_law.nd rfl (Or.inl rfl)) pgs_nil))))
      (pss_cons (ps_set (i := 21) sc_law.nd rfl (Or.inl rfl) (pe_call (ok_unknown T) (hr.mono (by decide)) rfl (g_unknown T) (F_unknown T).kp (b_unknown T) .nil pass0 (pa_cons (pv 2) (pa_cons (pe_meth (pv 7) (c_Move T) (m_Move_halves T) (ok_Move_halves T) (hr.mono (by decide)) (b_Move_halves T) .nil pass0 (pa_cons (pv 8) pa_nil)) (pa_cons (pv 19) (pa_cons (pv 20) pa_nil))))))
      (pss_cons (ps_if (pt_cmpR op_ne (pe_ix (ix_listK (K := K)) (pv 17) (pv 18) (fun _ _ => rfl)) (pv 21) (nomark _)) (pss_one (ps_ret pe_bl)) pss_nil)
      (pss_one (ps_for PassesOwn.never rfl (pi_tupK (K := K) (pe_tup (pa_cons (pe_fldK (K := K) (pv 20) rfl) (pa_cons (pe_fldK (K := K) (pv 20) rfl) pa_nil)))) (pg_name (i := 22) sc_law.nd rfl (Or.inl rfl)) (pss_cons (ps_set (i := 23) sc_law.nd rfl (Or.inr rfl) (pe_call (ok_true_place T) (hr.mono (by decide)) rfl (g_true_place T) (F_true_place T).kp (b_true_place T) .nil pass0 (pa_cons (pv 2) (pa_cons (pv 12) (pa_cons (pv 13) (pa_cons (pv 19) (pa_cons (pv 22) pa_nil)))))))
      (pss_cons (ps_set (i := 24) sc_law.nd rfl (Or.inr rfl) (pe_call (ok_l_true T) (hr.mono (by decide)) rfl (g_l_true T) (F_l_true T).kp (b_l_true T) .nil pass0 (pa_cons (pv 3) (pa_cons (pv 12) (pa_cons (pv 13) (pa_cons (pv 19) (pa_cons (pv 22) pa_nil)))))))
      (pss_cons (ps_set (i := 25) sc_law.nd rfl (Or.inr rfl) (pe_call (ok_spot T) (hr.mono (by decide)) rfl (g_spot T) (F_spot T).kp (b_spot T) .nil pass0 (pa_cons (pv 2) (pa_cons (pv 16) (pa_cons (pv 19) (pa_cons (pv 22) pa_nil))))))
      (pss_cons (ps_if (pt_cmpR (op_neDK (K := K) (hu64 hr)) (pe_lc (own := [("_law_j", 30)]) (g := (gName 30)) (tt := tYes) rfl sc_law.nd (pi_range1 rfl (gf_range T) (pa_cons pe_int pa_nil)) (blkOk_by (own := [("_law_j", 30)]) (N := ["_law_script", "_law_rows_here", "_law_arm_here", "_law_joints", "_law_many", "_law_first", "_law_last", "_law_move", "_law_depth", "_law_at", "_law_under", "_law_part", "_law_values_here", "_law_offsets_here", "_law_mover", "_law_bodies", "_law_middle", "_law_loose", "_law_k", "_law_link", "_law_body", "_law_bound", "_law_end", "_law_true_here", "_law_due", "_law_seen", "_law_away", "_law_matter", "_law_text", "_law_other", "_law_j"]) (sc := defScope s_law) (by decide +kernel)) (fun _ _ _ _ _ => (pg_name (i := 30) sc_law.nd rfl (Or.inl rfl))) (fun _ _ _ _ _ => pts_nil) (fun _ _ _ _ _ => (pe_op op_mulW (pe_ix (ix_tupK (K := K)) (pv 23) (pv 30) (fun _ _ => rfl)) (pe_ix (ix_listK (K := K)) (pv 24) pe_int (fun _ _ => rfl))))) (pe_lc (own := [("_law_j", 30)]) (g := (gName 30)) (tt := tYes) rfl sc_law.nd (pi_range1 rfl (gf_range T) (pa_cons pe_int pa_nil)) (blkOk_by (own := [("_law_j", 30)]) (N := ["_law_script", "_law_rows_here", "_law_arm_here", "_law_joints", "_law_many", "_law_first", "_law_last", "_law_move", "_law_depth", "_law_at", "_law_under", "_law_part", "_law_values_here", "_law_offsets_here", "_law_mover", "_law_bodies", "_law_middle", "_law_loose", "_law_k", "_law_link", "_law_body", "_law_bound", "_law_end", "_law_true_here", "_law_due", "_law_seen", "_law_away", "_law_matter", "_law_text", "_law_other", "_law_j"]) (sc := defScope s_law) (by decide +kernel)) (fun _ _ _ _ _ => (pg_name (i := 30) sc_law.nd rfl (Or.inl rfl))) (fun _ _ _ _ _ => pts_nil) (fun _ _ _ _ _ => (pe_op op_mulW (pe_ix (ix_listK (K := K)) (pv 24) (pv 30) (fun _ _ => rfl)) (pe_ix (ix_tupK (K := K)) (pv 23) pe_int (fun _ _ => rfl))))) (nomark _)) (pss_one (ps_ret pe_bl)) pss_nil)
      (pss_cons (ps_setLc (i := 26) (own := [("_law_j", 30)]) (g := (gName 30)) (tt := tYes) rfl sc_law.nd rfl rfl (sw_true rfl rfl rfl (by decide +kernel)) (pi_range1 rfl (gf_range T) (pa_cons pe_int pa_nil)) (blkOk_by (own := [("_law_j", 30)]) (N := ["_law_script", "_law_rows_here", "_law_arm_here", "_law_joints", "_law_many", "_law_first", "_law_last", "_law_move", "_law_depth", "_law_at", "_law_under", "_law_part", "_law_values_here", "_law_offsets_here", "_law_mover", "_law_bodies", "_law_middle", "_law_loose", "_law_k", "_law_link", "_law_body", "_law_bound", "_law_end", "_law_true_here", "_law_due", "_law_seen", "_law_away", "_law_matter", "_law_text", "_law_other", "_law_j"]) (sc := defScope s_law) (by decide +kernel)) (fun _ _ _ _ _ => (pg_name (i := 30) sc_law.nd rfl (Or.inl rfl))) (fun _ _ _ _ _ => pts_nil) (fun _ _ _ _ _ => (pe_op op_sub (pe_ix (ix_tupK (K := K)) (pv 23) (pv 30) (fun _ _ => rfl)) (pe_op op_mulW (pe_ix (ix_tupK (K := K)) (pv 25) (pv 30) (fun _ _ => rfl)) (pe_ix (ix_tupK (K := K)) (pv 23) pe_int (fun _ _ => rfl))))))
      (pss_one (ps_if (pt_cmpR op_gt (pe_op op_add (pe_op op_add (pe_op op_powW (pe_ix (ix_listK (K := K)) (pv 26) pe_int (fun _ _ => rfl)) pe_int) (pe_op op_powW (pe_ix (ix_listK (K := K)) (pv 26) pe_int (fun _ _ => rfl)) pe_int)) (pe_op op_powW (pe_ix (ix_listK (K := K)) (pv 26) pe_int (fun _ _ => rfl)) pe_int)) (pe_op op_powW (pe_op op_mulW (pv 21) (pe_ix (ix_tupK (K := K)) (pv 23) pe_int (fun _ _ => rfl))) pe_int) (nomark _)) (pss_one (ps_ret pe_bl)) pss_nil)))))))))))))
      (pss_cons (ps_set (i := 27) sc_law.nd rfl (Or.inl rfl) (pe_make (M_Matter T) (ok_Matter_init T) (hr.mono (by decide)) rfl (g_Matter T) (bd_Matter_init T) vals_non pass0 (pa_cons pe_str (pa_cons (pv 14) pa_nil))))
      (pss_cons (ps_if (pt_cmpR (op_neDK (K := K) (hu64 hr)) (pe_meth0 (pv 27) (c_Matter T) (m_Matter_pairs T) (ok_Matter_pairs T) (hr.mono (by decide)) (b_Matter_pairs T) .nil pass0) (pe_call (ok_l_pairs T) (hr.mono (by decide)) rfl (g_l_pairs T) (F_l_pairs T).kp (b_l_pairs T) .nil pass0 (pa_cons (pe_lc (own := [("_law_link", 19), ("_law_body", 20)]) (g := (gTup K 2 (gCons (gName 19) (gCons (gName 20) gNil)))) (tt := tYes) rfl sc_law.nd (pi_listK (K := K) (pv 15)) (blkOk_by (own := [("_law_link", 19), ("_law_body", 20)]) (N := ["_law_script", "_law_rows_here", "_law_arm_here", "_law_joints", "_law_many", "_law_first", "_law_last", "_law_move", "_law_depth", "_law_at", "_law_under", "_law_part", "_law_values_here", "_law_offsets_here", "_law_mover", "_law_bodies", "_law_middle", "_law_loose", "_law_k", "_law_link", "_law_body", "_law_bound", "_law_end", "_law_true_here", "_law_due", "_law_seen", "_law_away", "_law_matter", "_law_text", "_law_other", "_law_j"]) (sc := defScope s_law) (by decide +kernel)) (fun _ _ _ _ _ => (pg_tupK (K := K) rfl (pgs_cons (pg_name (i := 19) sc_law.nd rfl (Or.inl rfl)) (pgs_cons (pg_name (i := 20) sc_law.nd rfl (Or.inl rfl)) pgs_nil)))) (fun _ _ _ _ _ => pts_nil) (fun _ _ _ _ _ => (pv 19))) (pa_cons (pe_fldK (K := K) (pv 2) rfl) pa_nil))) (nomark _)) (pss_one (ps_ret pe_bl)) pss_nil)
      (pss_cons (ps_set (i := 28) sc_law.nd rfl (Or.inl rfl) (pe_call (ok_write_certificate T) (hr.mono (by decide)) rfl (g_write_certificate T) (F_write_certificate T).kp (b_write_certificate T) .nil pass0 (pa_cons (pv 27) (pa_cons (pe_tup (pa_cons pe_str (pa_cons (pe_tup pa_nil) pa_nil))) pa_nil))))
      (pss_cons (ps_set (i := 29) sc_law.nd rfl (Or.inl rfl) (pe_ix (ix_tupK (K := K)) (pe_call (ok_read_certificate T) (hr.mono (by decide)) rfl (g_read_certificate T) (F_read_certificate T).kp (b_read_certificate T) .nil pass0 (pa_cons (pv 28) pa_nil)) pe_int (fun _ _ => rfl)))
      (pss_one (ps_ret (pe_and (pe_cmpR (op_eqDK (K := K) (hu64 hr)) (pe_meth0 (pv 29) (c_Matter T) (m_Matter_pairs T) (ok_Matter_pairs T) (hr.mono (by decide)) (b_Matter_pairs T) .nil pass0) (pe_meth0 (pv 27) (c_Matter T) (m_Matter_pairs T) (ok_Matter_pairs T) (hr.mono (by decide)) (b_Matter_pairs T) .nil pass0) (nomark _)) (pe_one (pe_cmpR op_eq (pe_call (ok_write_certificate T) (hr.mono (by decide)) rfl (g_write_certificate T) (F_write_certificate T).kp (b_write_certificate T) .nil pass0 (pa_cons (pv 29) (pa_cons (pe_tup (pa_cons pe_str (pa_cons (pe_tup pa_nil) pa_nil))) pa_nil))) (pv 28) (nomark _))))))))))))))))))))))))))))), ?_⟩
    walk_at "n0"
    refine EvS.go ?_
    refine z_asgP (P := fun v H1 => ∃ R : List Int, R.length = 32 ∧ IsL (R.map V.int) v H1) (ep_call (vs := [.ref l, .int 32]) (by walk_at "ea") fun H1 e Q k E => ⟨l, xs, rfl, ex_l e hl, hz, k⟩) fun v H1 e1 hv => ?_
    obtain ⟨R, hR, rl, rfl, hr⟩ := hv
    have hrl : SqL K H1 rl (R.map V.int) := sq_of hr
    have k := k.mono e1
    walk_at "nf"
    refine z_asgP (P := ArmAt K (lawArm R)) (ep_call (vs := [.ref rl]) (by walk_at "ea") fun H2 e Q k E => ⟨rl, R, rfl, ex_l e hrl, hR, k⟩) fun av H2 e2 hA => ?_
    have k := k.mono e2
    have hrl := ex_l e2 hrl
    obtain ⟨a, dx, tj, tc, tb, rfl, ha, hJ, hC, hBs⟩ := id hA
    have r24 := ints_atI (ns := R) (k := 24) (c := 24) rfl (by omega)
    have r25 := ints_atI (ns := R) (k := 25) (c := 25) rfl (by omega)
    have r26 := ints_atI (ns := R) (k := 26) (c := 26) rfl (by omega)
    have r27 := ints_atI (ns := R) (k := 27) (c := 27) rfl (by omega)
    have r28 := ints_atI (ns := R) (k := 28) (c := 28) rfl (by omega)
    have r29 := ints_atI (ns := R) (k := 29) (c := 29) rfl (by omega)
    walk_at "nf"
    refine z_asg (v := .ref tj) (by walk_at "ev") ?_
    walk_at "nf"
    obtain ⟨yj, y1, y2, y3⟩ := id hJ
    have j6 := law_j6 R
    have lm : ∀ k, k < (lawArm R).joints.length → ((lawArm R).joints.getD k default).least ≤ ((lawArm R).joints.getD k default).most := fun k hk => (law_jv R k hk).lm
    refine z_asg (v := .int (lawMany R : Int)) (ev_is (by walk_at "ev") (congrArg V.int (by rw [y2, joints_len]))) ?_
    walk_at "nf"
    refine z_asgP (P := IsL ((lFirst R).map V.int)) (ep_call (vs := [.ref tj, .int (R.getD 24 0)]) (by walk_at "ea") fun H3 e Q k E => ⟨tj, (lawArm R).joints, R.getD 24 0, rfl, hJ.z (fun _ => z_Joint T _) (Ex.z e), j6, lm, k⟩) fun v H3 e3 hv => ?_
    obtain ⟨fl, rfl, hf⟩ := hv
    have hf : SqL K H3 fl ((lFirst R).map V.int) := sq_of hf
    have k := k.mono e3
    have hrl := ex_l e3 hrl
    have hA := z_Arm T _ _ _ _ (Ex.z e3) hA
    have hJ := hJ.z (fun _ => z_Joint T _) (Ex.z e3)
    have ha := e3 _ _ ha
    walk_at "nf"
    refine z_asgP (P := IsL ((lLast R).map V.int)) (ep_call (vs := [.ref tj, .int (R.getD 25 0)]) (by walk_at "ea") fun H3 e Q k E => ⟨tj, (lawArm R).joints, R.getD 25 0, rfl, hJ.z (fun _ => z_Joint T _) (Ex.z e), j6, lm, k⟩) fun v H4 e4 hv => ?_
    obtain ⟨ll, rfl, hll⟩ := hv
    have hll : SqL K H4 ll ((lLast R).map V.int) := sq_of hll
    have k := k.mono e4
    have hrl := ex_l e4 hrl
    have hA := z_Arm T _ _ _ _ (Ex.z e4) hA
    have hJ := hJ.z (fun _ => z_Joint T _) (Ex.z e4)
    have ha := e4 _ _ ha
    have hf := ex_l e4 hf
    walk_at "nf"
    refine z_asgP (P := MoveAt K (lFirst R) (lLast R)) (ep_make (epa1 (x := .ref a) (by walk_at "ev") (epa1 (x := .ref fl) (by walk_at "ev") (epa1 (x := .ref ll) (by walk_at "ev") epa_nil))) fun vs H5 e5 z x dx nx nd ne Q k E => ?_) fun mo H5 e5 hMo => ?_
    · obtain ⟨_, rfl, _, rfl, _, rfl, rfl⟩ := z
      exact ⟨lawArm R, lFirst R, lLast R, .ref a, fl, ll, x, dx, H5, rfl, made_ex nx nd, nx, upd_same, z_Arm T _ _ _ _ (Ex.z e5) hA, ex_l e5 hf, ex_l e5 hll, law_f1 R, law_f2 R, k⟩
    have k := k.mono e5
    have hrl := ex_l e5 hrl
    have hA := z_Arm T _ _ _ _ (Ex.z e5) hA
    have hJ := hJ.z (fun _ => z_Joint T _) (Ex.z e5)
    have ha := e5 _ _ ha
    have hf := ex_l e5 hf
    have hll := ex_l e5 hll
    walk_at "nf"
    refine z_asg (v := .int (lDepth R : Int)) (ev_is (by walk_at "ev") (congrArg V.int (depth_cast R).symm)) ?_
    walk_at "nf"
    have ep : (1 : Int) * 2 ^ ((lDepth R : Int)).toNat = 2 ^ lDepth R := Int.one_mul _
    have p1 := (two_depth R).1
    have p2 := (two_depth R).2
    have hd9 := depth_le R
    refine z_asg (v := .int (lAt R)) (ev_is (ev_op (by walk_at "ev") (ev_op (by walk_at "ev") (by walk_at "ev") (rv_shl (And.intro (by omega) (And.intro (by omega) (by decide))))) (rv_mod (by rw [ep]; omega))) (congrArg V.int (by rw [ep] <;> rfl))) ?_
    walk_at "nf"
    refine z_asg (v := .int (lUnder R)) (ev_is (by walk_at "ev") (by rfl)) ?_
    walk_at "nf"
    obtain ⟨u1, u2⟩ := under_in R
    obtain ⟨t1, t2⟩ := at_in R
    have bU : Bz 20 (lUnder R) := bz_of (b := 1048576) (by omega) (by omega) (by decide)
    have bA : Bz 20 (lAt R) := bz_of (b := 1048576) (by omega) (by omega) (by decide)
    have bP : Bz 20 ((1 : Int) * 2 ^ ((lDepth R : Int)).toNat) := bz_of (b := 1048576) (by rw [ep]; omega) (by rw [ep]; omega) (by decide)
    refine z_asgP (P := IsT [.int (lOver R), .int (lWhole R)]) (ep_tupV (ea_cons (ev_is (by walk_at "ev") (by rfl)) (ea_cons (ev_is (ev_op (by walk_at "ev") (ev_op (by walk_at "ev") (by walk_at "ev") (rv_shl (And.intro (by omega) (And.intro (by omega) (by decide))))) (rv_mulW (cmulW_of bU bP (by omega)))) (congrArg V.int (by rw [ep] <;> rfl))) ea_nil)) (Nat.le_of_ble_eq_true rfl)) fun v H6 e6 hv => ?_
    obtain ⟨pt, rfl, hpt⟩ := hv
    have hpt : SqT K H6 pt [.int (lOver R), .int (lWhole R)] := st_of hpt
    have k := k.mono e6
    have hrl := ex_l e6 hrl
    have hA := z_Arm T _ _ _ _ (Ex.z e6) hA
    have hJ := hJ.z (fun _ => z_Joint T _) (Ex.z e6)
    have ha := e6 _ _ ha
    have hf := ex_l e6 hf
    have hll := ex_l e6 hll
    have hMo := z_Move T _ _ _ _ _ (Ex.z e6) hMo
    walk_at "nf"
    obtain ⟨w1, w2⟩ := whole_in R
    obtain ⟨o1, o2⟩ := over_in R
    refine z_asgP (P := LsP (lawArm R).joints.length fun i => FracAt K ((lVals R).getD i default)) (ep_call (vs := [.ref tj, .ref fl, .ref ll, .ref pt, .int (R.getD 28 0)]) (by walk_at "ea") fun H7 e Q k E => ⟨tj, fl, ll, pt, (lawArm R).joints, lFirst R, lLast R, lOver R, lWhole R, R.getD 28 0, rfl, hJ.z (fun _ => z_Joint T _) (Ex.z e), ex_l e hf, ex_l e hll, ex_t e hpt, j6, (law_f1 R).l, (law_f2 R).l, fun i hi => ⟨(law_jv R i hi).e0, (law_jv R i hi).e1⟩, by omega, by omega, k⟩) fun v H7 e7 hv => ?_
    have k := k.mono e7
    have hrl := ex_l e7 hrl
    have hA := z_Arm T _ _ _ _ (Ex.z e7) hA
    have hJ := hJ.z (fun _ => z_Joint T _) (Ex.z e7)
    have ha := e7 _ _ ha
    have hMo := z_Move T _ _ _ _ _ (Ex.z e7) hMo
    walk_at "nf"
    refine z_asgP (P := LsP (lawArm R).joints.length fun i => PlaceAt K ((lOffs R).getD i default)) (ep_call (vs := [.ref tj, .int (R.getD 29 0)]) (by walk_at "ea") fun H7 e Q k E => ⟨tj, (lawArm R).joints, R.getD 29 0, rfl, hJ.z (fun _ => z_Joint T _) (Ex.z e), j6, fun i hi => (law_jv R i hi).b0, k⟩) fun u H8 e8 hu => ?_
    have k := k.mono e8
    have hA := z_Arm T _ _ _ _ (Ex.z e8) hA
    have hJ := hJ.z (fun _ => z_Joint T _) (Ex.z e8)
    have ha := e8 _ _ ha
    have hMo := z_Move T _ _ _ _ _ (Ex.z e8) hMo
    have hv := up_lsP (fun _ => upz_rdT.up) _ _ _ e8 hv
    obtain ⟨vl, rfl, hV⟩ := LsP.rl (K := K) hv
    obtain ⟨ol, rfl, hO⟩ := LsP.rl (K := K) hu
    rw [← vals_len] at hV
    rw [← offs_len] at hO
    walk_at "nf"
    refine z_asgP (P := MoverAt K (lawM R)) (ep_make (epa1 (x := .ref a) (by walk_at "ev") (epa1 (x := mo) (by walk_at "ev") (epaP (P := fun v H1 => ∃ p x, v = .ref p ∧ H1 p = some (.tup [x]) ∧ BodyAt K heldB x H1) (ep_tup1 (ep_make (epaP (P := IsT heldB.first.vs) (EvP.weak (ep_tupV (vs := [.int 0, .int 0, .int 20]) (by walk_at "ea") (Nat.le_of_ble_eq_true rfl)) fun v H1 _ h => h) up_isT (epaP (P := IsT heldB.last.vs) (EvP.weak (ep_tupV (vs := [.int 5, .int 0, .int 30]) (by walk_at "ea") (Nat.le_of_ble_eq_true rfl)) fun v H1 _ h => h) up_isT (epa1 (x := .int 3) (by walk_at "ev") epa_nil))) fun vs H5 e5 z x dx nx nd ne Q k E => ?_) (z_Body T _).up) (fun _ _ _ e ⟨p, x, r, h, b⟩ => ⟨p, x, r, e _ _ h, z_Body T _ _ _ _ (Ex.z e) b⟩) epa_nil))) fun vs H5 e5 z x dx nx nd ne Q k E => ?_) fun mv H9 e9 hMv => ?_
    · obtain ⟨_, _, rfl, ⟨q1, rfl, h1⟩, _, _, rfl, ⟨q2, rfl, h2⟩, _, rfl, rfl⟩ := z
      exact ⟨heldB, q1, q2, x, dx, H5, rfl, made_ex nx nd, nx, upd_same, st_of h1, st_of h2, held_bv, k⟩
    · obtain ⟨_, rfl, _, rfl, _, _, rfl, ⟨p, y, rfl, hp, hb⟩, rfl⟩ := z
      refine ⟨lawM R, .ref a, mo, p, x, dx, H5, rfl, made_ex nx nd, nx, upd_same, z_Arm T _ _ _ _ (Ex.z e5) hA, z_Move T _ _ _ _ _ (Ex.z e5) hMo, .inl ⟨[y], st_of hp, rfl, fun i u hi => ?_⟩, k⟩
      have : i = 0 := by
        have := (List.getElem?_eq_some_iff.mp hi).1
        simp at this
        exact this
      subst this
      have : y = u := Option.some.inj hi
      subst this
      exact hb
    have k := k.mono e9
    have hA := z_Arm T _ _ _ _ (Ex.z e9) hA
    have hJ := hJ.z (fun _ => z_Joint T _) (Ex.z e9)
    have ha := e9 _ _ ha
    have hMo := z_Move T _ _ _ _ _ (Ex.z e9) hMo
    have hV := hV.up (fun _ => upz_rdT.up) e9
    have hO := hO.up (fun _ => upz_rdT.up) e9
    walk_at "nf"
    have sm := law_sm R
    refine z_asgP (ep_bodies T (by walk_at "ev") hMv sm) fun v H10 e10 hB => ?_
    rw [bls_len] at hB
    obtain ⟨bl, yb, rfl, hb1, hb2, hb3⟩ := id hB
    have k := k.mono e10
    have hA := z_Arm T _ _ _ _ (Ex.z e10) hA
    have hJ := hJ.z (fun _ => z_Joint T _) (Ex.z e10)
    have ha := e10 _ _ ha
    have hMo := z_Move T _ _ _ _ _ (Ex.z e10) hMo
    have hMv := z_Mover T _ _ _ _ (Ex.z e10) hMv
    have hV := hV.up (fun _ => upz_rdT.up) e10
    have hO := hO.up (fun _ => upz_rdT.up) e10
    have hbl : SqL K H10 bl yb := sq_of hb1
    walk_at "nf"
    have y8 : yb[8]? = some yb[8] := List.getElem?_eq_getElem (by omega)
    obtain ⟨p8, bv8, hp8, hs8, _⟩ := hb3 8 _ y8
    rw [bls_last] at hs8
    have hs8 : SqT K H10 p8 [.int ((lawArm R).joints.length : Int), bv8] := hs8
    have ai8 : atI yb 8 = some (.ref p8) := by
      have := atI_nat (xs := yb) (j := 8) y8
      rw [hp8] at this
      exact this
    refine z_skip (et_is (et_or (et_test (by walk_at "ev")) fun _ => et_test (by walk_at "ev")) ?_) ?_
    · rw [hb2, joints_len, decide_eq_true rfl] <;> rfl
    refine z_asgP (ep_middle T (f := lFirst R) (l := lLast R) (d := lDepth R) (c := lAt R) (by walk_at "ev") (ep_tupV (by walk_at "ea") (Nat.le_of_ble_eq_true rfl)) hMo ((law_f1 R).l.trans (law_f2 R).l.symm) (fits_sm (law_jv R) (law_f1 R)) (fits_sm (law_jv R) (law_f2 R))) fun v H11 e11 hv => ?_
    obtain ⟨ml, rfl, hml⟩ := hv
    have k := k.mono e11
    have hA := z_Arm T _ _ _ _ (Ex.z e11) hA
    have hJ := hJ.z (fun _ => z_Joint T _) (Ex.z e11)
    have ha := e11 _ _ ha
    have hMo := z_Move T _ _ _ _ _ (Ex.z e11) hMo
    have hMv := z_Mover T _ _ _ _ (Ex.z e11) hMv
    have hV := hV.up (fun _ => upz_rdT.up) e11
    have hO := hO.up (fun _ => upz_rdT.up) e11
    have hB := up_lsP (fun _ => (z_Lb T _).up) _ _ _ e11 hB
    walk_at "nf"
    have fl12 : (lFirst R).length = (lLast R).length := (law_f1 R).l.trans (law_f2 R).l.symm
    have bok : ∀ i, i < (blsM (lawM R)).length → UkOk (lawM R).arm.joints (lHs R) ((blsM (lawM R)).getD i default).1 ∧ Sm ((blsM (lawM R)).getD i default).2.first ∧ Sm ((blsM (lawM R)).getD i default).2.last := fun i hi => by
      rw [bls_len] at hi
      obtain ⟨q1, q2⟩ := bls_ok R i hi
      exact ⟨law_uk R q1, far_sm q2.f, far_sm q2.l⟩
    refine z_asgP (ep_unknowns T (by walk_at "ev") (ep_halves T (f := lFirst R) (l := lLast R) (d := lDepth R) (by walk_at "ev") (by walk_at "ev") hMo (by omega) fl12 (law_f1 R).l6) hMv sm bok) fun v H12 e12 hv => ?_
    rw [bls_len] at hv
    obtain ⟨lo, rfl, hlo⟩ := hv
    have k := k.mono e12
    have ha := e12 _ _ ha
    have F : LF K R (.ref a) mo mv tj vl ol bl ml lo H12 := ⟨z_Arm T _ _ _ _ (Ex.z e12) hA, hJ.z (fun _ => z_Joint T _) (Ex.z e12), z_Move T _ _ _ _ _ (Ex.z e12) hMo, z_Mover T _ _ _ _ (Ex.z e12) hMv, hV.up (fun _ => upz_rdT.up) e12, hO.up (fun _ => upz_rdT.up) e12, up_lsP (fun _ => (z_Lb T _).up) _ _ _ e12 hB, ex_l e12 (sq_of hml), sq_of hlo⟩
    walk_at "nf"
    refine z_forS (n := 9) (by walk_at "ea") (by decide) (fun σ' => ∃ x18 x19 x20 x21 x22 x23 x24 x25 x26, σ' = [some (.ref l), some (.ref rl), some (.ref a), some (.ref tj), some (.int (lawMany R : Int)), some (.ref fl), some (.ref ll), some mo, some (.int (lDepth R : Int)), some (.int (lAt R)), some (.int (lUnder R)), some (.ref pt), some (.ref vl), some (.ref ol), some mv, some (.ref bl), some (.ref ml), some (.ref lo), x18, x19, x20, x21, x22, x23, x24, x25, x26, none, none, none, none]) ⟨none, none, none, none, none, none, none, none, none, rfl⟩ (fun i σ' hi p N B hN => ?_) (fun σ' p => ?_)
    · obtain ⟨x18, x19, x20, x21, x22, x23, x24, x25, x26, rfl⟩ := p
      have hi9 : i < 9 := by omega
      obtain ⟨q1, q2⟩ := bls_ok R i hi9
      have hLk := range9_at (f := fun i => V.int (unkM lenUp (lawArm R).joints (lHs R) ((blsM (lawM R)).getD i default).1 ((blsM (lawM R)).getD i default).2)) hi9
      have hfL := F.fL
      obtain ⟨bl', yb, eb, hb1, hb2, hb3⟩ := F.fB
      cases eb
      have yi : yb[i]? = some yb[i] := List.getElem?_eq_getElem (by omega)
      obtain ⟨pi, bv, hpi, hsi, hbv⟩ := hb3 i _ yi
      have ai : atI yb (i : Int) = some (.ref pi) := by
        have := atI_nat (xs := yb) (j := i) yi
        rw [hpi] at this
        exact this
      have hbl : SqL K H12 bl yb := sq_of hb1
      have hLk : atI ((List.range 9).map fun i => V.int (unkM lenUp (lawArm R).joints (lHs R) ((blsM (lawM R)).getD i default).1 ((blsM (lawM R)).getD i default).2)) (i : Int) = some (V.int (unkM lenUp (lawArm R).joints (lHs R) ((blsM (lawM R)).getD i default).1 ((blsM (lawM R)).getD i default).2)) := hLk
      generalize hc : (blsM (lawM R)).getD i default = c at hsi hbv q1 q2 hLk
      generalize hub : unkM lenUp (lawArm R).joints (lHs R) c.1 c.2 = ub at hLk
      walk_at "nf"
      refine z_unpack2 (by walk_at "ev") hsi ?_
      walk_at "nf"
      refine z_asgP (P := fun v _ => v = .int ub) (by
        rw [← hub]
        exact ep_bound T (by walk_at "ev") (ep_halves T (f := lFirst R) (l := lLast R) (d := lDepth R) (by walk_at "ev") (by walk_at "ev") F.fMo (by omega) fl12 (law_f1 R).l6) (by walk_at "ev") (by walk_at "ev") F.fA hbv (far_sm q2.f) (far_sm q2.l) (law_uk R q1)) fun v H13 e13 hv => ?_
      subst hv
      have F := F.up T e13
      have hfL := F.fL
      have hbv := z_Body T _ _ _ _ (Ex.z e13) hbv
      walk_at "nf"
      refine z_skip (et_is (et_test (ev_op (ev_op (by walk_at "ev") (by walk_at "ev") (rv_ixL hfL hLk)) (by walk_at "ev") rv_neI)) (by rw [decide_eq_true rfl] <;> rfl)) ?_
      obtain ⟨ba, bdx, ob1, ob2, rfl, hba, hob1, hob2⟩ := id hbv
      refine z_forTu (xs := [.ref ob1, .ref ob2]) (ep_tupV (by walk_at "ea") (Nat.le_of_ble_eq_true rfl)) (fun σ' => ∃ x22 x23 x24 x25 x26, σ' = [some (.ref l), some (.ref rl), some (.ref a), some (.ref tj), some (.int (lawMany R : Int)), some (.ref fl), some (.ref ll), some mo, some (.int (lDepth R : Int)), some (.int (lAt R)), some (.int (lUnder R)), some (.ref pt), some (.ref vl), some (.ref ol), some mv, some (.ref bl), some (.ref ml), some (.ref lo), some (.int (i : Int)), some (.int (c.1 : Int)), some (.ref ba), some (.int ub), x22, x23, x24, x25, x26, none, none, none, none]) ⟨_, _, _, _, _, rfl⟩ (fun m y σ' H14 e14 hy p N2 B2 hN2 => ?_) (fun σ' H14 e14 p => ?_)
      · obtain ⟨x22, x23, x24, x25, x26, rfl⟩ := p
        have F := F.up T e14
        -- the end's place
        obtain ⟨pu, u, rfl, hu, hv, su⟩ : ∃ (pu : Addr) (u : I3), y = .ref pu ∧ SqT K H14 pu u.vs ∧ (u = c.2.first ∨ u = c.2.last) ∧ Sm u := by
          rcases m with _ | _ | m
          · exact ⟨ob1, c.2.first, (Option.some.inj hy).symm, ex_t e14 hob1, .inl rfl, far_sm q2.f⟩
          · exact ⟨ob2, c.2.last, (Option.some.inj hy).symm, ex_t e14 hob2, .inr rfl, far_sm q2.l⟩
          · simp at hy
        obtain ⟨s1, s2, s3⟩ := law_same R q1 u
        have near := law_near R q1 hv
        obtain ⟨bt, bd⟩ := law_tb R q1 su
        obtain ⟨bs1, bs2, bs3⟩ := law_sb R q1 su
        have bub := unkM_bz R q1 (far_sm q2.f) (far_sm q2.l)
        rw [hub] at bub near
        walk_at "nf"
        refine z_asgP (P := IsT (trueM (lawArm R).joints (lVals R) (lOffs R) c.1 u.p4).vs) (ep_call (vs := [.ref a, .ref vl, .ref ol, .int (c.1 : Int), .ref pu]) (by walk_at "ea") fun H15 e Q k E => ⟨.ref a, vl, ol, pu, lawArm R, lVals R, lOffs R, c.1, u, rfl, z_Arm T _ _ _ _ (Ex.z e) F.fA, F.fV.up (fun _ => upz_rdT.up) e, F.fO.up (fun _ => upz_rdT.up) e, ex_t e hu, su, law_tp R q1, k⟩) fun v H15 e15 hv => ?_
        obtain ⟨pT, rfl, hpT⟩ := hv
        have F := F.up T e15
        have hu := ex_t e15 hu
        walk_at "nf"
        refine z_asgP (P := IsL (dueM (lawArm R).joints (lVals R) (lOffs R) c.1 u.p4).vs) (ep_call (vs := [.ref tj, .ref vl, .ref ol, .int (c.1 : Int), .ref pu]) (by walk_at "ea") fun H15 e Q k E => ⟨tj, vl, ol, pu, (lawArm R).joints, lVals R, lOffs R, c.1, u, rfl, F.fJ.z (fun _ => z_Joint T _) (Ex.z e), F.fV.up (fun _ => upz_rdT.up) e, F.fO.up (fun _ => upz_rdT.up) e, ex_t e hu, su, law_tp R q1, k⟩) fun v H16 e16 hv => ?_
        obtain ⟨pD, rfl, hpD⟩ := hv
        have F := F.up T e16
        have hu := ex_t e16 hu
        walk_at "nf"
        refine z_asgP (P := IsT (spotM (lawArm R).joints (lMid R) c.1 u).vs) (ep_call (vs := [.ref a, .ref ml, .int (c.1 : Int), .ref pu]) (by walk_at "ea") fun H15 e Q k E => ⟨.ref a, ml, pu, lawArm R, lMid R, c.1, u, rfl, z_Arm T _ _ _ _ (Ex.z e) F.fA, ex_l e F.fM, ex_t e hu, su, law_sp R q1, k⟩) fun v H17 e17 hv => ?_
        obtain ⟨pS, rfl, hpS⟩ := hv
        walk_at "nf"
        generalize trueM (lawArm R).joints (lVals R) (lOffs R) c.1 u.p4 = tp at *
        generalize dueM (lawArm R).joints (lVals R) (lOffs R) c.1 u.p4 = dp at *
        generalize spotM (lawArm R).joints (lMid R) c.1 u = sp at *
        have hT : SqT K H17 pT [.int tp.x, .int tp.y, .int tp.z, .int tp.w] := ex_t (e16.trans e17) (st_of hpT)
        have hD : SqL K H17 pD [.int dp.x, .int dp.y, .int dp.z, .int dp.w] := ex_l e17 (sq_of hpD)
        have hS : SqT K H17 pS [.int sp.x, .int sp.y, .int sp.z] := st_of hpS
        obtain ⟨bt1, bt2, bt3, bt4⟩ := bt
        obtain ⟨bd1, bd2, bd3, bd4⟩ := bd
        refine z_skip (et_test (ev_neDI (ns := [tp.x * dp.w, tp.y * dp.w, tp.z * dp.w]) (EvP.weak (ep_lcRi (n := 3) (fun m => .int ([tp.x, tp.y, tp.z].getD m 0 * dp.w)) (by walk_at "ea") (by decide) (fun _ => rfl) fun m hm => ?_) fun v H1 _ h => h) (EvP.weak (ep_lcRi (n := 3) (fun m => .int ([dp.x, dp.y, dp.z].getD m 0 * tp.w)) (by walk_at "ea") (by decide) (fun _ => rfl) fun m hm => ?_) fun v H1 _ h => ?_))) ?_
        · walk_at "nf"
          rcases (by omega : m = 0 ∨ m = 1 ∨ m = 2) with rfl | rfl | rfl
          · exact ev_is (by walk_at "ev") (by rfl)
          · exact ev_is (by walk_at "ev") (by rfl)
          · exact ev_is (by walk_at "ev") (by rfl)
        · walk_at "nf"
          rcases (by omega : m = 0 ∨ m = 1 ∨ m = 2) with rfl | rfl | rfl
          · exact ev_is (by walk_at "ev") (by rfl)
          · exact ev_is (by walk_at "ev") (by rfl)
          · exact ev_is (by walk_at "ev") (by rfl)
        · rw [s1, s2, s3]
          exact h
        walk_at "nf"
        refine z_asgP (P := IsL [V.int (tp.x - sp.x * tp.w), V.int (tp.y - sp.y * tp.w), V.int (tp.z - sp.z * tp.w)]) (EvP.weak (ep_lcRi (n := 3) (fun m => .int ([tp.x, tp.y, tp.z].getD m 0 - [sp.x, sp.y, sp.z].getD m 0 * tp.w)) (by walk_at "ea") (by decide) (fun _ => rfl) fun m hm => ?_) fun v H1 _ h => h) fun v H18 e18 hv => ?_
        · walk_at "nf"
          rcases (by omega : m = 0 ∨ m = 1 ∨ m = 2) with rfl | rfl | rfl
          · exact ev_is (by walk_at "ev") (by rfl)
          · exact ev_is (by walk_at "ev") (by rfl)
          · exact ev_is (by walk_at "ev") (by rfl)
        obtain ⟨pA, rfl, hpA⟩ := hv
        have hpA : SqL K H18 pA [V.int (tp.x - sp.x * tp.w), V.int (tp.y - sp.y * tp.w), V.int (tp.z - sp.z * tp.w)] := sq_of hpA
        have hT := ex_t e18 hT
        walk_at "nf"
        intro H19 e19
        refine s_when (b := false) (et_is (EvT.mono e19 (et_test (by walk_at "ev"))) ?_) (fun z => by cases z) (fun _ H20 e20 => ?_)
        · exact decide_eq_false (Int.not_lt.mpr near)
        exact hN2 _ H20 ((((e15.trans e16).trans e17).trans e18).trans (e19.trans e20)) ⟨_, _, _, _, _, rfl⟩
      · obtain ⟨x22, x23, x24, x25, x26, rfl⟩ := p
        exact hN _ H14 (e13.trans e14) ⟨_, _, _, _, _, _, _, _, _, rfl⟩
    · obtain ⟨x18, x19, x20, x21, x22, x23, x24, x25, x26, rfl⟩ := p
      refine z_asgP (P := MatterAt K (lawM R)) (fun H13 e13 Q q => ?_) fun ma H13 e13 hM => ?_
      · refine ep_make (dvs := [V.non]) (P := MatterAt K (lawM R)) (epa1 (x := .str "self") (by walk_at "ev") (epa1 (x := mv) (by walk_at "ev") epa_nil)) (fun vs H5 e5 z x dx nx nd ne Q k E => ?_) H13 e13 Q q
        obtain ⟨_, rfl, _, rfl, rfl⟩ := z
        exact ⟨lawM R, mv, x, dx, H5, rfl, made_ex nx nd, nx, upd_same, z_Mover T _ _ _ _ (Ex.z e5) F.fMv, k⟩
      have F := F.up T e13
      have k := k.mono e13
      have ha := e13 _ _ ha
      obtain ⟨bl', yb, eb, hb1, hb2, hb3⟩ := F.fB
      cases eb
      have hbl : SqL K H13 bl yb := sq_of hb1
      walk_at "nf"
      refine z_skip (et_test (ev_neDP (ep_pairs T (by walk_at "ev") hM sm) (ep_callA (epaP (P := IsL ((linksM (lawM R)).map V.int)) (EvP.weak (ep_lcG (K := K) (B := fun xs H1 => ∀ (i : Nat) y, xs[i]? = some y → LbAt K ((blsM (lawM R)).getD i default) y H1) (n := 9) (Pi := fun i v _ => v = V.int ((blsM (lawM R)).getD i default).1)
        (EvP.weak (ep_of (v := .ref bl) (by walk_at "ev")) fun v H1 e h => ⟨bl, yb, h, e _ _ hb1, hb2, fun i y q => z_Lb T _ _ _ _ (Ex.z e) (hb3 i y q)⟩) (fun xs H1 H2 e hb i y q => (z_Lb T _).up _ _ _ e (hb i y q)) (by decide) (fun _ => upz_val) fun xs H1 e hxl hb i x R hi hR => ?_) fun v H1 _ h => ?_) up_isL (epa1 (x := .ref tb) (by walk_at "ev") epa_nil)) fun vs H1 e hvs Q k E => ?_))) ?_
      · obtain ⟨p, bv, rfl, hp, hbv⟩ := hb i x hi
        refine g_pair hp (hR _ (by rfl) ?_)
        walk_at "nf"
        exact ep_of (by walk_at "ev")
      · have q := h.vals
        have eq : (linksM (lawM R)).map V.int = (List.range 9).map fun i => V.int ((blsM (lawM R)).getD i default).1 := by
          unfold linksM
          rw [List.map_map]
          have hl9 := bls_len R
          apply List.ext_getElem?
          intro i
          rw [List.getElem?_map, List.getElem?_map]
          by_cases h : i < 9
          · have h2 : i < (blsM (lawM R)).length := by omega
            simp [h, h2, List.getD_eq_getElem?_getD]
          · have h2 : ¬ i < (blsM (lawM R)).length := by omega
            simp [h, h2]
        rw [eq]
        exact q
      · obtain ⟨_, _, rfl, ⟨p, rfl, hp⟩, _, rfl, rfl⟩ := hvs
        refine ⟨p, tb, linksM (lawM R), (lawArm R).beside, rfl, sq_of hp, ?_, ?_, k⟩
        · exact hBs.z (fun _ => z_Pair _) (Ex.z ((((((((((((e3.trans e4).trans e5).trans e6).trans e7).trans e8).trans e9).trans e10).trans e11).trans e12).trans e13).trans e)))
        · unfold linksM
          rw [List.length_map, bls_len]
          decide
      refine z_asg (v := .str (certM (lawM R))) (ep_write T (by walk_at "ev") hM (law_wr R)) ?_
      walk_at "nf"
      refine z_asgP (P := MatterAt K (lawM R)) (fun H14 e14 Q q => ?_) fun oa H14 e14 hO => ?_
      · refine ep_call (P := ReadAt K (lawM R)) (vs := [.str (certM (lawM R))]) (by walk_at "ea") (fun H1 e Q k E => ⟨lawM R, rfl, law_wr R, law_mv R, k⟩) H14 e14 _ fun v H15 e15 hv => ?_
        obtain ⟨p, m1, t1, rfl, hp, hm, _⟩ := hv
        exact ⟨p, [m1, t1], 0, m1, rfl, rfl, hp, rfl, q m1 H15 e15 hm⟩
      have k := k.mono e14
      have hM := z_Matter T _ _ _ _ (Ex.z e14) hM
      walk_at "nf"
      have e1 : decide (certM (lawM R) = certM (lawM R)) = true := decide_eq_true rfl
      refine z_retV (v := .bl true) (ev_is (ev_andV (ev_eqDP (ep_pairs T (by walk_at "ev") hO sm) (ep_pairs T (by walk_at "ev") hM sm)) fun _ => ev_op (ep_write T (by walk_at "ev") hO (law_wr R)) (by walk_at "ev") rv_eqS) (by rw [e1] <;> rfl)) fun H15 e15 => k _ H15 e15 rfl
end
end K82
/-! The head: the run of the top, what is looked at behind it. -/
namespace K82
open PySem PySem.Spec PyProof.Rows L2
def as0 : List Addr := [3, 642, 643, 6, 49, 56, 63, 70, 77, 82, 89, 96, 101, 108, 113, 120, 215, 650, 657, 664, 669, 676, 683, 688, 695, 702, 709, 714, 719, 726, 733, 740, 745, 752, 757, 764, 832, 839, 846, 853]
def as1 : List Addr := [860, 867, 874, 879, 886, 891, 896, 903, 908, 130, 152, 173, 194, 206, 247, 275, 303, 334, 383, 428, 469, 525, 581, 637, 821, 4, 0, 129, 151, 172, 193, 205, 246, 274, 302, 333, 382, 427, 468, 524]
def as2 : List Addr := [580, 636, 820, 48, 55, 62, 69, 76, 81, 88, 95, 100, 107, 112, 119, 214, 649, 656, 663, 668, 675, 682, 687, 694, 701, 708, 713, 718, 725, 732, 739, 744, 751, 756, 763, 831, 838, 845, 852, 859]
def as3 : List Addr := [866, 873, 878, 885, 890, 895, 902, 907, 47, 54, 61, 68, 75, 80, 87, 94, 99, 106, 111, 118, 149, 170, 191, 213, 230, 237, 244, 265, 272, 293, 300, 321, 326, 331, 352, 359, 366, 373, 380, 403]
def as4 : List Addr := [408, 415, 420, 425, 447, 452, 459, 466, 487, 494, 501, 508, 515, 522, 543, 550, 557, 564, 571, 578, 599, 606, 613, 620, 627, 634, 648, 655, 662, 667, 674, 681, 686, 693, 700, 707, 712, 717, 724, 731]
def as5 : List Addr := [738, 743, 750, 755, 762, 776, 783, 790, 797, 804, 811, 818, 830, 837, 844, 851, 858, 865, 872, 877, 884, 889, 894, 901, 906, 396, 440, 223, 316, 148, 169, 190, 229, 236, 243, 264, 271, 292, 299, 320]
def as6 : List Addr := [325, 330, 351, 358, 365, 372, 379, 402, 407, 414, 419, 424, 446, 451, 458, 465, 486, 493, 500, 507, 514, 521, 542, 549, 556, 563, 570, 577, 598, 605, 612, 619, 626, 633, 775, 782, 789, 796, 803, 810]
def as7 : List Addr := [817]
def asL : List Addr := as0 ++ (as1 ++ (as2 ++ (as3 ++ (as4 ++ (as5 ++ (as6 ++ (as7)))))))
abbrev R : PySem.W.OpenRow := PySem.W.OpenLaw.row PySem.Challenge.rw_armwarrant_k82_whole_long_arms
abbrev AlK : Type := He.AlD × Bool
def obsK (g : Addr → Option Obj) : AlK := (He.obsD fa fn (He.frG g asL), ex (He.frG g asL))
def hk : PySem.W.Hook where
  α := AlK
  obs := fun s => obsK s.heap.get?
  val := fun _ => (He.valD fn, true)
  says := fun _ h => ∃ K : PySem.W.Frag, K.In h ∧ He.SaysD fa fn K ∧ ex K = true
  of := fun _ _ e => ⟨_, He.frG_in, congrArg (fun z : AlK => z.1) e, congrArg (fun z : AlK => z.2) e⟩
  keeps := fun _ _ _ ⟨K, hK, c⟩ k => ⟨K, PySem.W.Frag.In.keeps hK k, c⟩
def ob (s : PySem.W.SharedT) : AlK := obsK (HandSHeadRun.getT s)
theorem ob_eq (s : PySem.W.SharedT) : ob s = hk.obs s.abs := by
  have e : HandSHeadRun.getT s = s.abs.heap.get? := funext (HandSHeadRun.getT_eq s)
  show obsK _ = obsK _
  rw [e]
theorem run (w : World) : HandSHeadRun.RunEqI R (PySem.W.view R.prog [0, 90]) hk ob 30000 loose w := by
  unfold HandSHeadRun.RunEqI
  kernel_rfl
end K82
/-! The end. -/
namespace K82
open PySem PySem.Spec PyProof.Rows L2
theorem facts {P : Program} {w : World} {K : PySem.W.Frag} {h : Heap} {mg : Str → Option Value} {f : Addr} (X : K.In h) (G : h.Ns mainGlobals mg) (hfa : mg ("law" : Str) = some (.ref f)) (c : He.SaysD fa fn K) (e : ex K = true) :
    ∃ fd : FuncData, (∀ (s : Shared) (v : Value), BindsTo s fd ⟨[v], []⟩ [("_law_script", v)]) ∧ ∀ base : Heap, K.In base → base.Ns mainGlobals mg → FnOk P w K mg base CX0 10 f fd ["_law_script"] (sp_law K) := by
  have T : Tx K mg := ⟨c, e, h, X, G⟩
  have e1 := hfa.symm.trans (g_law T)
  cases e1
  have b := FunD.bindsA (ps := ["_law_script"]) (F_law T) fun _ _ _ _ _ _ us hl => match us, hl with | [_], _ => rfl
  exact ⟨fd_law T, fun s v => b s [v] rfl, fun base _ _ => ok_law T⟩
end K82
open PySem PySem.W PySem.Calls PyProof.Rows
theorem PySem.Challenge.cw_armwarrant_k82_whole_long_arms_holds : PySem.Challenge.rw_armwarrant_k82_whole_long_arms.Holds := by
  w_on; o_law
  refine HandSHeadRun.head_imp (r := OpenLaw.row PySem.Challenge.rw_armwarrant_k82_whole_long_arms) (q := view (OpenLaw.row PySem.Challenge.rw_armwarrant_k82_whole_long_arms).prog [0, 90]) (H := K82.hk) (ob := K82.ob) (M := 30000) (loose := K82.loose) (d := HandSHeadRun.topDef (OpenLaw.row PySem.Challenge.rw_armwarrant_k82_whole_long_arms).prog 90) (kwd := []) K82.ob_eq
    K82.run (by kernel_rfl) (by kernel_rfl) (by kernel_rfl) (by rfl) (by first | assumption | decide +kernel) (by decide +kernel) ⟨rfl, rfl, rfl, rfl, rfl, by decide +kernel⟩ ?hw ?hc
  case hw => w_witness2
  case hc =>
    refine L2.walk_ofE (l := PySem.Challenge.rw_armwarrant_k82_whole_long_arms) (n := 63) (k := 10) (x := "_law_script") (CX := L2.CX0) rfl (by decide) (by kernel_rfl) ⟨rfl, by decide, by decide⟩ ?F (fun _ _ _ _ z => z)
    intro w mg fa h Y G hmg0
    obtain ⟨K, KX, c, ee⟩ := Y
    have hmg : mg ("law" : PySem.Str) = some (.ref fa) := by
      have e : (HandSHeadRun.topDef (OpenLaw.row PySem.Challenge.rw_armwarrant_k82_whole_long_arms).prog 90).name = ("law" : PySem.Str) := by kernel_rfl
      rw [← e]
      exact hmg0
    obtain ⟨fd, hb, hF⟩ := K82.facts (P := (PySem.Challenge.rw_armwarrant_k82_whole_long_arms).prog) (w := w) KX G hmg c ee
    exact ⟨K, fd, K82.sp_law K, KX, hb, fun H a ns hl _ hS => ⟨a, ns, rfl, hS, Nat.le_trans hl (by decide), fun v H2 _ hv => hv⟩, hF⟩
