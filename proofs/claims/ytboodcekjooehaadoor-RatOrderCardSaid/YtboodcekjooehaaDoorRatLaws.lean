/-
  Fractions: the field, the order, the scaling, in plain words.
-/
import Derived.Test.YtboodcekjooehaaDoorRatPlain
import Derived.Test.YtboodcekjooehaaDoorEng
namespace Go.Proofs.YtboodcekjooehaaDoor
set_option linter.unusedVariables false
theorem rm_is {n d c e : Int} (h : ¬ d = 0) (hw : wide n ∧ wide d) (hr : raE c e = 0) (hx : c * d = n * e) : rmE n d = 0 ∧ rmN n d = c ∧ rmD n d = e ∧ raE c e = 0 := by
  have g := rm_gcd (n := n) h
  have q := raE_ok hr
  have v := rm_val (n := n) h
  have k : rN n d * e = c * rD n d := Int.eq_of_mul_eq_mul_right h (by rw [Int.mul_right_comm (rN n d) e d, v, Int.mul_right_comm c (rD n d) d, hx, Int.mul_right_comm n e (rD n d)])
  obtain ⟨u1, u2⟩ := rat_unique g.1 q.2.2.2.2 g.2 (by omega) k
  have z := rm_0 h hw (by rw [u1, u2]; exact hr)
  rw [u1, u2] at z
  exact ⟨z.1, z.2.1, z.2.2, hr⟩
def Is (n d c e : Int) : Prop := rmE n d = 0 ∧ rmN n d = c ∧ rmD n d = e ∧ raE c e = 0
theorem rm_get {n d : Int} (N D : Int) (h : 1 ≤ d) (hn : -N ≤ n ∧ n ≤ N) (hd : d ≤ D) (hN : N ≤ 1073741824) (hD : D ≤ 1073741824) : ∃ s t, Is n d s t ∧ s * d = n * t ∧ -N ≤ s ∧ s ≤ N ∧ 1 ≤ t ∧ t ≤ D := by
  have h0 : ¬ d = 0 := by omega
  have g := rm_gcd (n := n) h0
  have b1 := rN_bd (n := n) h0
  have b2 := rD_bd (n := n) h0
  have r : raE (rN n d) (rD n d) = 0 := raE_yes ⟨by omega, by omega, by omega, by omega, g.1⟩
  have z := rm_0 h0 (by unfold wide; omega) r
  exact ⟨rN n d, rD n d, ⟨z.1, z.2.1, z.2.2, r⟩, rm_val h0, by omega, by omega, by omega, by omega⟩
theorem wd {a b : Int} (ha : -1073741824 ≤ a ∧ a ≤ 1073741824) (hb : -1073741824 ≤ b ∧ b ≤ 1073741824) : -1152921504606846976 ≤ a * b ∧ a * b ≤ 1152921504606846976 := mul_bd (-1073741824) 1073741824 (-1073741824) 1073741824 ha.1 ha.2 hb.1 hb.2 (by decide)
theorem pos_mul {a b : Int} (ha : 1 ≤ a) (hb : 1 ≤ b) : 1 ≤ a * b := Int.mul_pos (show 0 < a by omega) (show 0 < b by omega)
theorem is_add {an ad bn bd c e : Int} (ha : raE an ad = 0) (hb : raE bn bd = 0) (hc : raE c e = 0) (hx : c * (ad * bd) = (an * bd + bn * ad) * e) : Is (an * bd + bn * ad) (ad * bd) c e := by
  have q1 := raE_ok ha
  have q2 := raE_ok hb
  have p := pos_mul q1.1 q2.1
  have w1 := wd (a := an) (b := bd) (by omega) (by omega)
  have w2 := wd (a := bn) (b := ad) (by omega) (by omega)
  have w3 := wd (a := ad) (b := bd) (by omega) (by omega)
  exact rm_is (by omega) (by unfold wide; omega) hc hx
theorem is_sub {an ad bn bd c e : Int} (ha : raE an ad = 0) (hb : raE bn bd = 0) (hc : raE c e = 0) (hx : c * (ad * bd) = (an * bd - bn * ad) * e) : Is (an * bd - bn * ad) (ad * bd) c e := by
  have q1 := raE_ok ha
  have q2 := raE_ok hb
  have p := pos_mul q1.1 q2.1
  have w1 := wd (a := an) (b := bd) (by omega) (by omega)
  have w2 := wd (a := bn) (b := ad) (by omega) (by omega)
  have w3 := wd (a := ad) (b := bd) (by omega) (by omega)
  exact rm_is (by omega) (by unfold wide; omega) hc hx
theorem is_mul {an ad bn bd c e : Int} (ha : raE an ad = 0) (hb : raE bn bd = 0) (hc : raE c e = 0) (hx : c * (ad * bd) = (an * bn) * e) : Is (an * bn) (ad * bd) c e := by
  have q1 := raE_ok ha
  have q2 := raE_ok hb
  have p := pos_mul q1.1 q2.1
  have w1 := wd (a := an) (b := bn) (by omega) (by omega)
  have w3 := wd (a := ad) (b := bd) (by omega) (by omega)
  exact rm_is (by omega) (by unfold wide; omega) hc hx
theorem is_div {an ad bn bd c e : Int} (ha : raE an ad = 0) (hb : raE bn bd = 0) (hc : raE c e = 0) (h0 : ¬ bn = 0) (hx : c * (ad * bn) = (an * bd) * e) : Is (an * bd) (ad * bn) c e := by
  have q1 := raE_ok ha
  have q2 := raE_ok hb
  have w1 := wd (a := an) (b := bd) (by omega) (by omega)
  have w3 := wd (a := ad) (b := bn) (by omega) (by omega)
  exact rm_is (fun z => by rcases Int.mul_eq_zero.1 z with z | z <;> omega) (by unfold wide; omega) hc hx
def sm (n d : Int) : Prop := raE n d = 0 ∧ -128 ≤ n ∧ n ≤ 128 ∧ 1 ≤ d ∧ d ≤ 30
theorem cancel {x y k : Int} (hk : 1 ≤ k) (h : x * k = y * k) : x = y := Int.eq_of_mul_eq_mul_right (by omega) h
theorem pl1 {an ad bn bd s t : Int} (v : s * (ad * bd) = (an * bd + bn * ad) * t) : s * (bd * ad) = (bn * ad + an * bd) * t := by grind
theorem pl2 {an ad bn bd cn cd s t l m u v : Int} (h1 : s * (ad * bd) = (an * bd + bn * ad) * t) (h2 : l * (t * cd) = (s * cd + cn * t) * m) (h3 : u * (bd * cd) = (bn * cd + cn * bd) * v) : l * (ad * v) * (bd * cd * t) = (an * v + u * ad) * m * (bd * cd * t) := by grind
theorem pl3 {an ad bn bd s t : Int} (v : s * (ad * bd) = (an * bd + bn * ad) * t) : an * (t * bd) = (s * bd - bn * t) * ad := by grind
theorem pl4 {an ad bn bd s t : Int} (v : s * (ad * bd) = an * bn * t) : s * (bd * ad) = bn * an * t := by grind
theorem pl5 {an ad bn bd cn cd x y p q z r : Int} (h1 : x * (ad * bd) = an * bn * y) (h2 : p * (y * cd) = x * cn * q) (h3 : z * (bd * cd) = bn * cn * r) : p * (ad * r) * (bd * cd * y) = an * z * q * (bd * cd * y) := by grind
theorem pl6 {an ad bn bd cn cd s t g e k m z r : Int} (h1 : s * (ad * bd) = (an * bd + bn * ad) * t) (h2 : g * (t * cd) = s * cn * e) (h3 : z * (bd * cd) = bn * cn * r) (h4 : k * (ad * cd) = an * cn * m) : g * (m * r) * (ad * bd * (t * cd)) = (k * r + z * m) * e * (ad * bd * (t * cd)) := by grind
theorem pl7 {an ad bn bd x y : Int} (h1 : x * (ad * bd) = an * bn * y) : an * (y * bn) = x * bd * ad := by grind
theorem field_facts {an ad bn bd cn cd : Int} (ha : sm an ad) (hb : sm bn bd) (hc : sm cn cd) :
    ∃ sN sD lN lD uN uD xN xD pN pD zN zD gN gD kN kD : Int,
      Is (an * bd + bn * ad) (ad * bd) sN sD ∧ Is (bn * ad + an * bd) (bd * ad) sN sD ∧ Is (sN * cd + cn * sD) (sD * cd) lN lD ∧ Is (bn * cd + cn * bd) (bd * cd) uN uD ∧ Is (an * uD + uN * ad) (ad * uD) lN lD ∧ Is (sN * bd - bn * sD) (sD * bd) an ad ∧
      Is (an * bn) (ad * bd) xN xD ∧ Is (bn * an) (bd * ad) xN xD ∧ Is (xN * cn) (xD * cd) pN pD ∧ Is (bn * cn) (bd * cd) zN zD ∧ Is (an * zN) (ad * zD) pN pD ∧ Is (sN * cn) (sD * cd) gN gD ∧ Is (an * cn) (ad * cd) kN kD ∧ Is (kN * zD + zN * kD) (kD * zD) gN gD ∧
      (¬ bn = 0 → Is (xN * bd) (xD * bn) an ad) := by
  obtain ⟨va, a1, a2, a3, a4⟩ := ha
  obtain ⟨vb, b1, b2, b3, b4⟩ := hb
  obtain ⟨vc, c1, c2, c3, c4⟩ := hc
  have m1 : -3840 ≤ an * bd ∧ an * bd ≤ 3840 := mul_bd (-128) 128 1 30 (by omega) (by omega) (by omega) (by omega) (by decide)
  have m2 : -3840 ≤ bn * ad ∧ bn * ad ≤ 3840 := mul_bd (-128) 128 1 30 (by omega) (by omega) (by omega) (by omega) (by decide)
  have m3 : 1 ≤ ad * bd ∧ ad * bd ≤ 900 := mul_bd 1 30 1 30 (by omega) (by omega) (by omega) (by omega) (by decide)
  have m4 : -3840 ≤ bn * cd ∧ bn * cd ≤ 3840 := mul_bd (-128) 128 1 30 (by omega) (by omega) (by omega) (by omega) (by decide)
  have m5 : -3840 ≤ cn * bd ∧ cn * bd ≤ 3840 := mul_bd (-128) 128 1 30 (by omega) (by omega) (by omega) (by omega) (by decide)
  have m6 : 1 ≤ bd * cd ∧ bd * cd ≤ 900 := mul_bd 1 30 1 30 (by omega) (by omega) (by omega) (by omega) (by decide)
  have m7 : -16384 ≤ an * bn ∧ an * bn ≤ 16384 := mul_bd (-128) 128 (-128) 128 (by omega) (by omega) (by omega) (by omega) (by decide)
  have m8 : -16384 ≤ bn * cn ∧ bn * cn ≤ 16384 := mul_bd (-128) 128 (-128) 128 (by omega) (by omega) (by omega) (by omega) (by decide)
  have m9 : -16384 ≤ an * cn ∧ an * cn ≤ 16384 := mul_bd (-128) 128 (-128) 128 (by omega) (by omega) (by omega) (by omega) (by decide)
  have m10 : 1 ≤ ad * cd ∧ ad * cd ≤ 900 := mul_bd 1 30 1 30 (by omega) (by omega) (by omega) (by omega) (by decide)
  obtain ⟨sN, sD, is, vs, s1, s2, s3, s4⟩ := rm_get (n := an * bd + bn * ad) (d := ad * bd) 7680 900 (by omega) (by omega) (by omega) (by decide) (by decide)
  obtain ⟨uN, uD, iu, vu, u1, u2, u3, u4⟩ := rm_get (n := bn * cd + cn * bd) (d := bd * cd) 7680 900 (by omega) (by omega) (by omega) (by decide) (by decide)
  obtain ⟨xN, xD, ix, vx, x1, x2, x3, x4⟩ := rm_get (n := an * bn) (d := ad * bd) 16384 900 (by omega) (by omega) (by omega) (by decide) (by decide)
  obtain ⟨zN, zD, iz, vz, z1, z2, z3, z4⟩ := rm_get (n := bn * cn) (d := bd * cd) 16384 900 (by omega) (by omega) (by omega) (by decide) (by decide)
  obtain ⟨kN, kD, ik, vk, k1, k2, k3, k4⟩ := rm_get (n := an * cn) (d := ad * cd) 16384 900 (by omega) (by omega) (by omega) (by decide) (by decide)
  have n1 : -230400 ≤ sN * cd ∧ sN * cd ≤ 230400 := mul_bd (-7680) 7680 1 30 (by omega) (by omega) (by omega) (by omega) (by decide)
  have n2 : -115200 ≤ cn * sD ∧ cn * sD ≤ 115200 := mul_bd (-128) 128 1 900 (by omega) (by omega) (by omega) (by omega) (by decide)
  have n3 : 1 ≤ sD * cd ∧ sD * cd ≤ 27000 := mul_bd 1 900 1 30 (by omega) (by omega) (by omega) (by omega) (by decide)
  have n4 : -2097152 ≤ xN * cn ∧ xN * cn ≤ 2097152 := mul_bd (-16384) 16384 (-128) 128 (by omega) (by omega) (by omega) (by omega) (by decide)
  have n5 : 1 ≤ xD * cd ∧ xD * cd ≤ 27000 := mul_bd 1 900 1 30 (by omega) (by omega) (by omega) (by omega) (by decide)
  have n6 : -983040 ≤ sN * cn ∧ sN * cn ≤ 983040 := mul_bd (-7680) 7680 (-128) 128 (by omega) (by omega) (by omega) (by omega) (by decide)
  obtain ⟨lN, lD, il, vl, l1, l2, l3, l4⟩ := rm_get (n := sN * cd + cn * sD) (d := sD * cd) 345600 27000 (by omega) (by omega) (by omega) (by decide) (by decide)
  obtain ⟨pN, pD, ip, vp, p1, p2, p3, p4⟩ := rm_get (n := xN * cn) (d := xD * cd) 2097152 27000 (by omega) (by omega) (by omega) (by decide) (by decide)
  obtain ⟨gN, gD, ig, vg, g1, g2, g3, g4⟩ := rm_get (n := sN * cn) (d := sD * cd) 983040 27000 (by omega) (by omega) (by omega) (by decide) (by decide)
  refine ⟨sN, sD, lN, lD, uN, uD, xN, xD, pN, pD, zN, zD, gN, gD, kN, kD, is, ?_, il, iu, ?_, ?_, ix, ?_, ip, iz, ?_, ig, ik, ?_, ?_⟩
  · exact is_add vb va is.2.2.2 (pl1 vs)
  · exact is_add va iu.2.2.2 il.2.2.2 (cancel (pos_mul m6.1 s3) (pl2 vs vl vu))
  · exact is_sub is.2.2.2 vb va (pl3 vs)
  · exact is_mul vb va ix.2.2.2 (pl4 vx)
  · exact is_mul va iz.2.2.2 ip.2.2.2 (cancel (pos_mul m6.1 x3) (pl5 vx vp vz))
  · exact is_add ik.2.2.2 iz.2.2.2 ig.2.2.2 (cancel (pos_mul m3.1 n3.1) (pl6 vs vg vz vk))
  · exact fun h => is_div ix.2.2.2 vb va h (pl7 vx)
theorem rc_neg (a b c d : Int) : rcV c d a b = -rcV a b c d := by unfold rcV; omega
theorem rc_zero {a b c d : Int} (h1 : raE a b = 0) (h2 : raE c d = 0) : rcV a b c d = 0 ↔ a = c ∧ b = d := by
  rw [← rat_eq h1 h2]
  unfold rcV
  omega
theorem rc_trans {a b c d e f : Int} (hb : 1 ≤ b) (hd : 1 ≤ d) (hf : 1 ≤ f) (h1 : rcV a b c d ≤ 0) (h2 : rcV c d e f ≤ 0) : rcV a b e f ≤ 0 := by
  have q1 : a * d ≤ c * b := by unfold rcV at h1; omega
  have q2 : c * f ≤ e * d := by unfold rcV at h2; omega
  have r1 : a * d * f ≤ c * b * f := Int.mul_le_mul_of_nonneg_right q1 (by omega)
  have r2 : c * f * b ≤ e * d * b := Int.mul_le_mul_of_nonneg_right q2 (by omega)
  have r3 : (a * f) * d ≤ (e * b) * d := by
    have e1 : a * f * d = a * d * f := Int.mul_right_comm a f d
    have e2 : c * b * f = c * f * b := Int.mul_right_comm c b f
    have e3 : e * b * d = e * d * b := Int.mul_right_comm e b d
    omega
  have r4 : a * f ≤ e * b := Int.le_of_mul_le_mul_right r3 (by omega)
  unfold rcV
  omega
theorem order_facts {an ad bn bd : Int} (ha : sm an ad) (hb : sm bn bd) : ∃ dN dD : Int, Is (an * bd - bn * ad) (ad * bd) dN dD ∧ (rcV an ad bn bd < 0 → dN < 0) ∧ (0 < rcV an ad bn bd → 0 < dN) := by
  obtain ⟨va, a1, a2, a3, a4⟩ := ha
  obtain ⟨vb, b1, b2, b3, b4⟩ := hb
  have m1 : -3840 ≤ an * bd ∧ an * bd ≤ 3840 := mul_bd (-128) 128 1 30 (by omega) (by omega) (by omega) (by omega) (by decide)
  have m2 : -3840 ≤ bn * ad ∧ bn * ad ≤ 3840 := mul_bd (-128) 128 1 30 (by omega) (by omega) (by omega) (by omega) (by decide)
  have m3 : 1 ≤ ad * bd ∧ ad * bd ≤ 900 := mul_bd 1 30 1 30 (by omega) (by omega) (by omega) (by omega) (by decide)
  obtain ⟨dN, dD, is, vs, s1, s2, s3, s4⟩ := rm_get (n := an * bd - bn * ad) (d := ad * bd) 7680 900 (by omega) (by omega) (by omega) (by decide) (by decide)
  refine ⟨dN, dD, is, fun h => ?_, fun h => ?_⟩
  · have q : an * bd < bn * ad := by unfold rcV at h; omega
    have r : (an * bd - bn * ad) * dD ≤ -1 * dD := Int.mul_le_mul_of_nonneg_right (by omega) (by omega)
    rcases Int.lt_or_le dN 0 with z | z
    · exact z
    · have := Int.mul_nonneg z (show 0 ≤ ad * bd by omega)
      omega
  · have q : bn * ad < an * bd := by unfold rcV at h; omega
    have r : 1 * dD ≤ (an * bd - bn * ad) * dD := Int.mul_le_mul_of_nonneg_right (by omega) (by omega)
    rcases Int.lt_or_le 0 dN with z | z
    · exact z
    · have := Int.mul_nonneg (show 0 ≤ -dN by omega) (show 0 ≤ ad * bd by omega)
      rw [Int.neg_mul] at this
      omega
theorem floor_facts {n d : Int} (h : sm n d) : fdV n d * d ≤ n ∧ n ≤ cdV n d * d ∧ fdV n d ≤ cdV n d ∧ cdV n d ≤ fdV n d + 1 ∧ (cdV n d = fdV n d ↔ d = 1) ∧ -1125899906842624 ≤ fdV n d ∧ fdV n d ≤ 1125899906842624 := by
  have hf := fd_rat h.1
  have q := fd_split hf
  have c := fd_ceil hf
  have hr := raE_ok h.1
  obtain ⟨hv, h1, h2, h3, h4⟩ := h
  rcases Int.lt_or_le (fdV n d * d) n with z | z
  · have e := c.1 z
    have e2 : (fdV n d + 1) * d = fdV n d * d + d := by rw [Int.add_mul, Int.one_mul]
    refine ⟨by omega, by rw [e, e2]; omega, by omega, by omega, ⟨fun y => by omega, fun y => by omega⟩, by omega, by omega⟩
  · have e := c.2 (by omega)
    refine ⟨by omega, by rw [e]; omega, by omega, by omega, ⟨fun y => ?_, fun y => by omega⟩, by omega, by omega⟩
    have en : fdV n d * d = n := by omega
    have dv : d.natAbs ∣ n.natAbs := by rw [← en, Int.natAbs_mul]; exact Nat.dvd_mul_left _ _
    have g := Nat.gcd_eq_right dv
    omega
theorem pl8 {p q f c e : Int} (v : c * q = p * e) : c * (q * f) = p * f * e := by grind
theorem pl9 {p q f c e : Int} (v : c * q = p * e) : c * (-q * f) = -p * f * e := by grind
theorem tmod_bd (n : Int) {m : Int} (h : 0 < m) : -m < n.tmod m ∧ n.tmod m < m := by
  have h1 := Int.tmod_lt_of_pos n h
  have h2 := Int.tmod_lt_of_pos (-n) h
  rw [Int.neg_tmod] at h2
  omega
theorem scale_facts {p q f : Int} (hp : -1073741824 ≤ p ∧ p ≤ 1073741824) (hq : 1 ≤ q ∧ q ≤ 1073741824) (hf : 1 ≤ f ∧ f ≤ 4294967296) : ∃ c e : Int,
    Is p q c e ∧ Is (p * f) (q * f) c e ∧ Is (-p * f) (-q * f) c e ∧ Is c e c e ∧ c * q = p * e ∧ -1073741824 ≤ c ∧ c ≤ 1073741824 ∧ 1 ≤ e ∧ e ≤ 1073741824 := by
  obtain ⟨c, e, i, v, b1, b2, b3, b4⟩ := rm_get (n := p) (d := q) 1073741824 1073741824 (by omega) (by omega) (by omega) (by decide) (by decide)
  have m1 : -4611686018427387904 ≤ p * f ∧ p * f ≤ 4611686018427387904 := mul_bd (-1073741824) 1073741824 1 4294967296 (by omega) (by omega) (by omega) (by omega) (by decide)
  have m2 : 1 ≤ q * f ∧ q * f ≤ 4611686018427387904 := mul_bd 1 1073741824 1 4294967296 (by omega) (by omega) (by omega) (by omega) (by decide)
  have e1 : -p * f = -(p * f) := Int.neg_mul p f
  have e2 : -q * f = -(q * f) := Int.neg_mul q f
  refine ⟨c, e, i, rm_is (by omega) (by unfold wide; omega) i.2.2.2 (pl8 v), rm_is (by omega) (by unfold wide; omega) i.2.2.2 (pl9 v), rm_is (by omega) (by unfold wide; omega) i.2.2.2 rfl, v, b1, b2, b3, b4⟩
end Go.Proofs.YtboodcekjooehaaDoor
