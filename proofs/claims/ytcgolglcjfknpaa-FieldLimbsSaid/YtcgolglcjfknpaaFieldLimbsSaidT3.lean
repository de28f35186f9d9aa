/- A part of the proof: FieldLimbs: Split of any field element and Join of any five numbers answer as the document. -/
import Derived.Test.YtcgolglcjfknpaaFieldLimbsSaidT2
import Derived.Test.YtcgolglcjfknpaaRows
set_option linter.unusedVariables false
set_option linter.unusedSimpArgs false

/- Sums and differences of elements, and the least form. -/
namespace Go.Proofs.Ytcgolglcjfknpaa
open Go Go.Eng
set_option maxRecDepth 100000

theorem plus_eq (a0 a1 a2 a3 a4 b0 b1 b2 b3 b4 : Int) : plusL [a0, a1, a2, a3, a4] [b0, b1, b2, b3, b4] = carriedL [IntKind.u64.wrap (a0 + b0), IntKind.u64.wrap (a1 + b1), IntKind.u64.wrap (a2 + b2), IntKind.u64.wrap (a3 + b3), IntKind.u64.wrap (a4 + b4)] := by kernel_rfl
theorem minus_eq (a0 a1 a2 a3 a4 b0 b1 b2 b3 b4 : Int) : minusL [a0, a1, a2, a3, a4] [b0, b1, b2, b3, b4] = carriedL [IntKind.u64.wrap (a0 + IntKind.u64.wrap (9007199254740916 - b0)), IntKind.u64.wrap (a1 + IntKind.u64.wrap (9007199254740988 - b1)), IntKind.u64.wrap (a2 + IntKind.u64.wrap (9007199254740988 - b2)), IntKind.u64.wrap (a3 + IntKind.u64.wrap (9007199254740988 - b3)), IntKind.u64.wrap (a4 + IntKind.u64.wrap (9007199254740988 - b4))] := by kernel_rfl

/-- limbs that stand for v -/
def Wid (a0 a1 a2 a3 a4 : Nat) : Prop := a0 < 4503599627370496 ∧ a1 < 4503599627370496 ∧ a2 < 4503599627370496 ∧ a3 < 4503599627370496 ∧ a4 < 4503599627370496
theorem Red.wid {a0 a1 a2 a3 a4 : Nat} (h : Red a0 a1 a2 a3 a4) : Wid a0 a1 a2 a3 a4 := by
  obtain ⟨h0, h1, h2, h3, h4⟩ := h
  exact ⟨by omega, by omega, by omega, by omega, by omega⟩
theorem Wid.lim {a0 a1 a2 a3 a4 : Nat} (h : Wid a0 a1 a2 a3 a4) : Lim a0 a1 a2 a3 a4 := by
  obtain ⟨h0, h1, h2, h3, h4⟩ := h
  exact ⟨by omega, by omega, by omega, by omega, by omega⟩
def El (l : List Int) (v : Nat) : Prop := ∃ u0 u1 u2 u3 u4 : Nat, l = nats [u0, u1, u2, u3, u4] ∧ Wid u0 u1 u2 u3 u4 ∧ val5 u0 u1 u2 u3 u4 % p25519 = v

theorem El.lt {l : List Int} {v : Nat} (h : El l v) : v < p25519 := by
  obtain ⟨u0, u1, u2, u3, u4, _, _, e⟩ := h
  rw [← e]; exact Nat.mod_lt _ (by decide)

theorem times_el {x y : List Int} {a b : Nat} (hx : El x a) (hy : El y b) : El (timesL x y) (a * b % p25519) := by
  obtain ⟨a0, a1, a2, a3, a4, rfl, ra, ea⟩ := hx
  obtain ⟨b0, b1, b2, b3, b4, rfl, rb, eb⟩ := hy
  obtain ⟨u0, u1, u2, u3, u4, e, r, h⟩ := times_nat ra.lim rb.lim
  refine ⟨u0, u1, u2, u3, u4, e, r.wid, ?_⟩
  rw [h, Nat.mul_mod, ea, eb]

theorem plus_el {x y : List Int} {a b : Nat} (hx : El x a) (hy : El y b) : El (plusL x y) ((a + b) % p25519) := by
  obtain ⟨a0, a1, a2, a3, a4, rfl, ra, ea⟩ := hx
  obtain ⟨b0, b1, b2, b3, b4, rfl, rb, eb⟩ := hy
  obtain ⟨h0, h1, h2, h3, h4⟩ := ra
  obtain ⟨k0, k1, k2, k3, k4⟩ := rb
  have e : plusL (nats [a0, a1, a2, a3, a4]) (nats [b0, b1, b2, b3, b4]) = carriedL (nats [a0 + b0, a1 + b1, a2 + b2, a3 + b3, a4 + b4]) := by
    refine (plus_eq (a0 : Int) (a1 : Int) (a2 : Int) (a3 : Int) (a4 : Int) (b0 : Int) (b1 : Int) (b2 : Int) (b3 : Int) (b4 : Int)).trans ?_
    rw [show IntKind.u64.wrap ((a0 : Int) + (b0 : Int)) = ((a0 + b0 : Nat) : Int) from w64 (n := a0 + b0) (by omega), show IntKind.u64.wrap ((a1 : Int) + (b1 : Int)) = ((a1 + b1 : Nat) : Int) from w64 (n := a1 + b1) (by omega), show IntKind.u64.wrap ((a2 : Int) + (b2 : Int)) = ((a2 + b2 : Nat) : Int) from w64 (n := a2 + b2) (by omega), show IntKind.u64.wrap ((a3 : Int) + (b3 : Int)) = ((a3 + b3 : Nat) : Int) from w64 (n := a3 + b3) (by omega), show IntKind.u64.wrap ((a4 : Int) + (b4 : Int)) = ((a4 + b4 : Nat) : Int) from w64 (n := a4 + b4) (by omega)]
    rfl
  rw [e]
  obtain ⟨u0, u1, u2, u3, u4, e, r, h⟩ := car_red (a0 := a0 + b0) (a1 := a1 + b1) (a2 := a2 + b2) (a3 := a3 + b3) (a4 := a4 + b4) (by omega) (by omega) (by omega) (by omega) (by omega)
  refine ⟨u0, u1, u2, u3, u4, e, r.wid, ?_⟩
  rw [h, ← ea, ← eb, ← Nat.add_mod]
  congr 1
  unfold val5; omega

theorem minus_el {x y : List Int} {a b : Nat} (hx : El x a) (hy : El y b) : El (minusL x y) ((a + (p25519 - b)) % p25519) := by
  have hb := hy.lt
  obtain ⟨a0, a1, a2, a3, a4, rfl, ra, ea⟩ := hx
  obtain ⟨b0, b1, b2, b3, b4, rfl, rb, eb⟩ := hy
  obtain ⟨h0, h1, h2, h3, h4⟩ := ra
  obtain ⟨k0, k1, k2, k3, k4⟩ := rb
  have e : minusL (nats [a0, a1, a2, a3, a4]) (nats [b0, b1, b2, b3, b4]) = carriedL (nats [a0 + (9007199254740916 - b0), a1 + (9007199254740988 - b1), a2 + (9007199254740988 - b2), a3 + (9007199254740988 - b3), a4 + (9007199254740988 - b4)]) := by
    refine (minus_eq (a0 : Int) (a1 : Int) (a2 : Int) (a3 : Int) (a4 : Int) (b0 : Int) (b1 : Int) (b2 : Int) (b3 : Int) (b4 : Int)).trans ?_
    rw [show IntKind.u64.wrap ((9007199254740916 : Int) - (b0 : Int)) = ((9007199254740916 - b0 : Nat) : Int) from (congrArg IntKind.u64.wrap (by omega)).trans (w64 (n := 9007199254740916 - b0) (by omega)), show IntKind.u64.wrap ((9007199254740988 : Int) - (b1 : Int)) = ((9007199254740988 - b1 : Nat) : Int) from (congrArg IntKind.u64.wrap (by omega)).trans (w64 (n := 9007199254740988 - b1) (by omega)), show IntKind.u64.wrap ((9007199254740988 : Int) - (b2 : Int)) = ((9007199254740988 - b2 : Nat) : Int) from (congrArg IntKind.u64.wrap (by omega)).trans (w64 (n := 9007199254740988 - b2) (by omega)), show IntKind.u64.wrap ((9007199254740988 : Int) - (b3 : Int)) = ((9007199254740988 - b3 : Nat) : Int) from (congrArg IntKind.u64.wrap (by omega)).trans (w64 (n := 9007199254740988 - b3) (by omega)), show IntKind.u64.wrap ((9007199254740988 : Int) - (b4 : Int)) = ((9007199254740988 - b4 : Nat) : Int) from (congrArg IntKind.u64.wrap (by omega)).trans (w64 (n := 9007199254740988 - b4) (by omega))]
    rw [show IntKind.u64.wrap ((a0 : Int) + ((9007199254740916 - b0 : Nat) : Int)) = ((a0 + (9007199254740916 - b0) : Nat) : Int) from w64 (n := a0 + (9007199254740916 - b0)) (by omega), show IntKind.u64.wrap ((a1 : Int) + ((9007199254740988 - b1 : Nat) : Int)) = ((a1 + (9007199254740988 - b1) : Nat) : Int) from w64 (n := a1 + (9007199254740988 - b1)) (by omega), show IntKind.u64.wrap ((a2 : Int) + ((9007199254740988 - b2 : Nat) : Int)) = ((a2 + (9007199254740988 - b2) : Nat) : Int) from w64 (n := a2 + (9007199254740988 - b2)) (by omega), show IntKind.u64.wrap ((a3 : Int) + ((9007199254740988 - b3 : Nat) : Int)) = ((a3 + (9007199254740988 - b3) : Nat) : Int) from w64 (n := a3 + (9007199254740988 - b3)) (by omega), show IntKind.u64.wrap ((a4 : Int) + ((9007199254740988 - b4 : Nat) : Int)) = ((a4 + (9007199254740988 - b4) : Nat) : Int) from w64 (n := a4 + (9007199254740988 - b4)) (by omega)]
    rfl
  rw [e]
  obtain ⟨u0, u1, u2, u3, u4, e, r, h⟩ := car_red (a0 := a0 + (9007199254740916 - b0)) (a1 := a1 + (9007199254740988 - b1)) (a2 := a2 + (9007199254740988 - b2)) (a3 := a3 + (9007199254740988 - b3)) (a4 := a4 + (9007199254740988 - b4)) (by omega) (by omega) (by omega) (by omega) (by omega)
  refine ⟨u0, u1, u2, u3, u4, e, r.wid, ?_⟩
  rw [h, ← ea, ← eb]
  have hv : val5 (a0 + (9007199254740916 - b0)) (a1 + (9007199254740988 - b1)) (a2 + (9007199254740988 - b2)) (a3 + (9007199254740988 - b3)) (a4 + (9007199254740988 - b4)) + val5 b0 b1 b2 b3 b4 = val5 a0 a1 a2 a3 a4 + 4 * p25519 := by
    unfold val5 p25519; omega
  generalize val5 (a0 + (9007199254740916 - b0)) (a1 + (9007199254740988 - b1)) (a2 + (9007199254740988 - b2)) (a3 + (9007199254740988 - b3)) (a4 + (9007199254740988 - b4)) = V at *
  generalize val5 a0 a1 a2 a3 a4 = A at *
  generalize val5 b0 b1 b2 b3 b4 = B at *
  unfold p25519 at *
  omega

/-! ### the least form -/

/-- the least form, of limbs that are carried -/
def lstI (c0 c1 c2 c3 c4 : Int) : List Int :=
  let s0 := IntKind.u64.wrap (c0 + 19)
  let s1 := IntKind.u64.wrap (c1 + shrI .u64 s0 51)
  let s2 := IntKind.u64.wrap (c2 + shrI .u64 s1 51)
  let s3 := IntKind.u64.wrap (c3 + shrI .u64 s2 51)
  let s4 := IntKind.u64.wrap (c4 + shrI .u64 s3 51)
  bif decide (shrI .u64 s4 51 > 0) then [andI .u64 s0 2251799813685247, andI .u64 s1 2251799813685247, andI .u64 s2 2251799813685247, andI .u64 s3 2251799813685247, andI .u64 s4 2251799813685247] else [c0, c1, c2, c3, c4]

def leastT' (cc : List Int) : Bool × List Int × List Int :=
 let v0 : Int := IntKind.u64.wrap (cc.getD (mulE (Int.toNat 0) 1) 0 + 19);
let v1 : List Int := cc.set (mulE (Int.toNat 0) 1) v0;
let v2 : Int := IntKind.i64.wrap (0 + 1);
let v3 : Int := shrI IntKind.u64 (v1.getD (mulE (Int.toNat 0) 1) 0) 51;
let v4 : Int := IntKind.u64.wrap (v1.getD (mulE v2.toNat 1) 0 + v3);
let v5 : List Int := v1.set (mulE v2.toNat 1) v4;
let v6 : Int := andI IntKind.u64 (v5.getD (mulE (Int.toNat 0) 1) 0) 2251799813685247;
let v7 : List Int := v5.set (mulE (Int.toNat 0) 1) v6;
let v8 : Int := IntKind.i64.wrap (v2 + 1);
let v9 : Int := shrI IntKind.u64 (v7.getD (mulE v2.toNat 1) 0) 51;
let v10 : Int := IntKind.u64.wrap (v7.getD (mulE v8.toNat 1) 0 + v9);
let v11 : List Int := v7.set (mulE v8.toNat 1) v10;
let v12 : Int := andI IntKind.u64 (v11.getD (mulE v2.toNat 1) 0) 2251799813685247;
let v13 : List Int := v11.set (mulE v2.toNat 1) v12;
let v14 : Int := IntKind.i64.wrap (v8 + 1);
let v15 : Int := shrI IntKind.u64 (v13.getD (mulE v8.toNat 1) 0) 51;
let v16 : Int := IntKind.u64.wrap (v13.getD (mulE v14.toNat 1) 0 + v15);
let v17 : List Int := v13.set (mulE v14.toNat 1) v16;
let v18 : Int := andI IntKind.u64 (v17.getD (mulE v8.toNat 1) 0) 2251799813685247;
let v19 : List Int := v17.set (mulE v8.toNat 1) v18;
let v20 : Int := IntKind.i64.wrap (v14 + 1);
let v21 : Int := shrI IntKind.u64 (v19.getD (mulE v14.toNat 1) 0) 51;
let v22 : Int := IntKind.u64.wrap (v19.getD (mulE v20.toNat 1) 0 + v21);
let v23 : List Int := v19.set (mulE v20.toNat 1) v22;
let v24 : Int := andI IntKind.u64 (v23.getD (mulE v14.toNat 1) 0) 2251799813685247;
let v25 : List Int := v23.set (mulE v14.toNat 1) v24;
let v26 : Int := shrI IntKind.u64 (v25.getD (mulE (Int.toNat 4) 1) 0) 51;
(Decidable.decide (v26 > 0),
 ( let v27 : Int := andI IntKind.u64 (v25.getD (mulE (Int.toNat 4) 1) 0) 2251799813685247;
 let v28 : List Int := v25.set (mulE (Int.toNat 4) 1) v27;
 v28),
 cc)
def leastV (cc : List Int) : List Int := bif (leastT' cc).1 then (leastT' cc).2.1 else (leastT' cc).2.2
theorem least_sel (x : List Int) : leastL x = bif (leastLT x).1 then (leastLT x).2.1 else (leastLT x).2.2 := by
  unfold leastL; rw [f67_form]; cases (leastLT x).1 <;> rfl
theorem least_sel' (x : List Int) : (bif (leastLT x).1 then (leastLT x).2.1 else (leastLT x).2.2) = leastV (carriedL (carriedL x)) := by kernel_rfl
theorem least_eq (x : List Int) : leastL x = leastV (carriedL (carriedL x)) := (least_sel x).trans (least_sel' x)
theorem leastV_eq (c0 c1 c2 c3 c4 : Int) : leastV [c0, c1, c2, c3, c4] = lstI c0 c1 c2 c3 c4 := by kernel_rfl

theorem least_el {x : List Int} {v : Nat} (hx : El x v) : ∃ u0 u1 u2 u3 u4 : Nat, leastL x = nats [u0, u1, u2, u3, u4] ∧ u0 < 2251799813685248 ∧ u1 < 2251799813685248 ∧ u2 < 2251799813685248 ∧ u3 < 2251799813685248 ∧ u4 < 2251799813685248 ∧ val5 u0 u1 u2 u3 u4 = v := by
  obtain ⟨a0, a1, a2, a3, a4, rfl, ra, ea⟩ := hx
  obtain ⟨h0, h1, h2, h3, h4⟩ := ra
  rw [least_eq]
  obtain ⟨v0, v1, v2, v3, v4, c, s, e, g0, g1, g2, g3, g4, hc, hs, hv⟩ := car_nat (a0 := a0) (a1 := a1) (a2 := a2) (a3 := a3) (a4 := a4) (by omega) (by omega) (by omega) (by omega) (by omega)
  have hc1 : c ≤ 3 := by unfold val5 p25519 at hv; omega
  have em := mod_of hv
  rw [e]; clear e hc hs hv
  obtain ⟨u0, u1, u2, u3, u4, c', s', e, k0, k1, k2, k3, k4, hc', hs', hv'⟩ := car_nat (a0 := v0 + 19 * c) (a1 := v1) (a2 := v2) (a3 := v3) (a4 := v4) (by omega) (by omega) (by omega) (by omega) (by omega)
  have k0' : u0 + 19 * c' < 2251799813685248 := by
    have : c' ≤ 1 := by unfold val5 p25519 at hv'; omega
    unfold val5 p25519 at hv'; omega
  have em' := mod_of hv'
  rw [em, ea] at em'
  rw [e]; clear e hc' hs' hv' em
  generalize u0 + 19 * c' = w0 at *
  clear c' k0 hc1 c
  rw [show leastV (nats [w0, u1, u2, u3, u4]) = _ from leastV_eq (w0 : Int) u1 u2 u3 u4]
  unfold lstI
  rw [show IntKind.u64.wrap ((w0 : Int) + 19) = ((w0 + 19 : Nat) : Int) from w64 (n := w0 + 19) (by omega)]
  dsimp only
  rw [shr51, and51 (by omega)]
  have d0 := Nat.div_add_mod (w0 + 19) 2251799813685248
  have m0 := Nat.mod_lt (w0 + 19) (show 2251799813685248 > 0 by decide)
  have q0 : (w0 + 19) / 2251799813685248 ≤ 1 := by omega
  generalize (w0 + 19) / 2251799813685248 = c0 at *
  generalize (w0 + 19) % 2251799813685248 = y0 at *
  rw [show IntKind.u64.wrap ((u1 : Int) + (c0 : Int)) = ((u1 + c0 : Nat) : Int) from w64 (n := u1 + c0) (by omega), shr51, and51 (by omega)]
  have d1 := Nat.div_add_mod (u1 + c0) 2251799813685248
  have m1 := Nat.mod_lt (u1 + c0) (show 2251799813685248 > 0 by decide)
  have q1 : (u1 + c0) / 2251799813685248 ≤ 1 := by omega
  generalize (u1 + c0) / 2251799813685248 = c1 at *
  generalize (u1 + c0) % 2251799813685248 = y1 at *
  rw [show IntKind.u64.wrap ((u2 : Int) + (c1 : Int)) = ((u2 + c1 : Nat) : Int) from w64 (n := u2 + c1) (by omega), shr51, and51 (by omega)]
  have d2 := Nat.div_add_mod (u2 + c1) 2251799813685248
  have m2 := Nat.mod_lt (u2 + c1) (show 2251799813685248 > 0 by decide)
  have q2 : (u2 + c1) / 2251799813685248 ≤ 1 := by omega
  generalize (u2 + c1) / 2251799813685248 = c2 at *
  generalize (u2 + c1) % 2251799813685248 = y2 at *
  rw [show IntKind.u64.wrap ((u3 : Int) + (c2 : Int)) = ((u3 + c2 : Nat) : Int) from w64 (n := u3 + c2) (by omega), shr51, and51 (by omega)]
  have d3 := Nat.div_add_mod (u3 + c2) 2251799813685248
  have m3 := Nat.mod_lt (u3 + c2) (show 2251799813685248 > 0 by decide)
  have q3 : (u3 + c2) / 2251799813685248 ≤ 1 := by omega
  generalize (u3 + c2) / 2251799813685248 = c3 at *
  generalize (u3 + c2) % 2251799813685248 = y3 at *
  rw [show IntKind.u64.wrap ((u4 : Int) + (c3 : Int)) = ((u4 + c3 : Nat) : Int) from w64 (n := u4 + c3) (by omega), shr51, and51 (by omega)]
  have d4 := Nat.div_add_mod (u4 + c3) 2251799813685248
  have m4 := Nat.mod_lt (u4 + c3) (show 2251799813685248 > 0 by decide)
  have q4 : (u4 + c3) / 2251799813685248 ≤ 1 := by omega
  generalize (u4 + c3) / 2251799813685248 = c4 at *
  generalize (u4 + c3) % 2251799813685248 = y4 at *
  by_cases hz : c4 = 0
  · rw [hz, show decide (((0 : Nat) : Int) > 0) = false from rfl, cond_false]
    refine ⟨w0, u1, u2, u3, u4, rfl, k0', k1, k2, k3, k4, ?_⟩
    rw [← em']
    symm
    apply Nat.mod_eq_of_lt
    unfold val5 p25519; omega
  · have h1 : c4 = 1 := by omega
    rw [h1, show decide (((1 : Nat) : Int) > 0) = true from rfl, cond_true]
    refine ⟨y0, y1, y2, y3, y4, rfl, m0, m1, m2, m3, m4, ?_⟩
    have hv : val5 w0 u1 u2 u3 u4 = val5 y0 y1 y2 y3 y4 + p25519 := by unfold val5 p25519; omega
    rw [← em', hv, Nat.add_mod_right]
    symm
    apply Nat.mod_eq_of_lt
    have : val5 y0 y1 y2 y3 y4 + p25519 < 2 * p25519 := by rw [← hv]; unfold val5 p25519; omega
    omega
end Go.Proofs.Ytcgolglcjfknpaa

/- Elements from bytes, and as bytes. -/
namespace Go.Proofs.Ytcgolglcjfknpaa
open Go Go.Eng
set_option maxRecDepth 100000

/-- the low part and a high part, put together -/
theorem orW {a b : Nat} (j : Nat) (hj : j ≤ 64) (ha : a < 2 ^ j) : orI .u64 (a : Int) (shlI .u64 (b : Int) (j : Int)) = ((a + b % 2 ^ (64 - j) * 2 ^ j : Nat) : Int) := by
  rw [show shlI .u64 (b : Int) (j : Int) = ((b * 2 ^ j % 2 ^ 64 : Nat) : Int) from shlN (k := .u64) rfl hj b]
  have e : b * 2 ^ j % 2 ^ 64 = b % 2 ^ (64 - j) * 2 ^ j := by
    rw [show (2 : Nat) ^ 64 = 2 ^ (64 - j) * 2 ^ j by rw [← Nat.pow_add]; congr 1; omega, Nat.mul_mod_mul_right]
  have h2 : (2 : Nat) ^ j ≤ 2 ^ 64 := Nat.pow_le_pow_right (by decide) hj
  refine (orN (k := .u64) rfl (Nat.lt_of_lt_of_le ha h2) (Nat.mod_lt _ (Nat.two_pow_pos 64))).trans ?_
  rw [show IntKind.u64.bits = 64 from rfl, e, or_addN' ha]

/-! ### as bytes -/
def feB (c : List Int) : List Int :=
 let v0 : Int := shlI IntKind.u64 (c.getD (mulE (Int.toNat 1) 1) 0) 51;
let v1 : Int := orI IntKind.u64 (c.getD (mulE (Int.toNat 0) 1) 0) v0;
let v2 : List Int := (List.replicate 4 0).set 0 v1;
let v3 : Int := shrI IntKind.u64 (c.getD (mulE (Int.toNat 1) 1) 0) 13;
let v4 : Int := shlI IntKind.u64 (c.getD (mulE (Int.toNat 2) 1) 0) 38;
let v5 : Int := orI IntKind.u64 v3 v4;
let v6 : List Int := v2.set 1 v5;
let v7 : Int := shrI IntKind.u64 (c.getD (mulE (Int.toNat 2) 1) 0) 26;
let v8 : Int := shlI IntKind.u64 (c.getD (mulE (Int.toNat 3) 1) 0) 25;
let v9 : Int := orI IntKind.u64 v7 v8;
let v10 : List Int := v6.set 2 v9;
let v11 : Int := shrI IntKind.u64 (c.getD (mulE (Int.toNat 3) 1) 0) 39;
let v12 : Int := shlI IntKind.u64 (c.getD (mulE (Int.toNat 4) 1) 0) 12;
let v13 : Int := orI IntKind.u64 v11 v12;
let v14 : List Int := v10.set 3 v13;
let v15 : Int := IntKind.i64.wrap (Int.tdiv 0 8);
let v16 : Int := IntKind.i64.wrap (8 * Int.tmod 0 8);
let v17 : Int := shrI IntKind.u64 (v14.getD (mulE v15.toNat 1) 0) v16;
let v18 : Int := IntKind.u8.wrap v17;
let v19 : List Int := (List.replicate 32 0).set (mulE (Int.toNat 0) 1) v18;
let v20 : Int := IntKind.i64.wrap (0 + 1);
let v21 : Int := IntKind.i64.wrap (v20.tdiv 8);
let v22 : Int := IntKind.i64.wrap (8 * v20.tmod 8);
let v23 : Int := shrI IntKind.u64 (v14.getD (mulE v21.toNat 1) 0) v22;
let v24 : Int := IntKind.u8.wrap v23;
let v25 : List Int := v19.set (mulE v20.toNat 1) v24;
let v26 : Int := IntKind.i64.wrap (v20 + 1);
let v27 : Int := IntKind.i64.wrap (v26.tdiv 8);
let v28 : Int := IntKind.i64.wrap (8 * v26.tmod 8);
let v29 : Int := shrI IntKind.u64 (v14.getD (mulE v27.toNat 1) 0) v28;
let v30 : Int := IntKind.u8.wrap v29;
let v31 : List Int := v25.set (mulE v26.toNat 1) v30;
let v32 : Int := IntKind.i64.wrap (v26 + 1);
let v33 : Int := IntKind.i64.wrap (v32.tdiv 8);
let v34 : Int := IntKind.i64.wrap (8 * v32.tmod 8);
let v35 : Int := shrI IntKind.u64 (v14.getD (mulE v33.toNat 1) 0) v34;
let v36 : Int := IntKind.u8.wrap v35;
let v37 : List Int := v31.set (mulE v32.toNat 1) v36;
let v38 : Int := IntKind.i64.wrap (v32 + 1);
let v39 : Int := IntKind.i64.wrap (v38.tdiv 8);
let v40 : Int := IntKind.i64.wrap (8 * v38.tmod 8);
let v41 : Int := shrI IntKind.u64 (v14.getD (mulE v39.toNat 1) 0) v40;
let v42 : Int := IntKind.u8.wrap v41;
let v43 : List Int := v37.set (mulE v38.toNat 1) v42;
let v44 : Int := IntKind.i64.wrap (v38 + 1);
let v45 : Int := IntKind.i64.wrap (v44.tdiv 8);
let v46 : Int := IntKind.i64.wrap (8 * v44.tmod 8);
let v47 : Int := shrI IntKind.u64 (v14.getD (mulE v45.toNat 1) 0) v46;
let v48 : Int := IntKind.u8.wrap v47;
let v49 : List Int := v43.set (mulE v44.toNat 1) v48;
let v50 : Int := IntKind.i64.wrap (v44 + 1);
let v51 : Int := IntKind.i64.wrap (v50.tdiv 8);
let v52 : Int := IntKind.i64.wrap (8 * v50.tmod 8);
let v53 : Int := shrI IntKind.u64 (v14.getD (mulE v51.toNat 1) 0) v52;
let v54 : Int := IntKind.u8.wrap v53;
let v55 : List Int := v49.set (mulE v50.toNat 1) v54;
let v56 : Int := IntKind.i64.wrap (v50 + 1);
let v57 : Int := IntKind.i64.wrap (v56.tdiv 8);
let v58 : Int := IntKind.i64.wrap (8 * v56.tmod 8);
let v59 : Int := shrI IntKind.u64 (v14.getD (mulE v57.toNat 1) 0) v58;
let v60 : Int := IntKind.u8.wrap v59;
let v61 : List Int := v55.set (mulE v56.toNat 1) v60;
let v62 : Int := IntKind.i64.wrap (v56 + 1);
let v63 : Int := IntKind.i64.wrap (v62.tdiv 8);
let v64 : Int := IntKind.i64.wrap (8 * v62.tmod 8);
let v65 : Int := shrI IntKind.u64 (v14.getD (mulE v63.toNat 1) 0) v64;
let v66 : Int := IntKind.u8.wrap v65;
let v67 : List Int := v61.set (mulE v62.toNat 1) v66;
let v68 : Int := IntKind.i64.wrap (v62 + 1);
let v69 : Int := IntKind.i64.wrap (v68.tdiv 8);
let v70 : Int := IntKind.i64.wrap (8 * v68.tmod 8);
let v71 : Int := shrI IntKind.u64 (v14.getD (mulE v69.toNat 1) 0) v70;
let v72 : Int := IntKind.u8.wrap v71;
let v73 : List Int := v67.set (mulE v68.toNat 1) v72;
let v74 : Int := IntKind.i64.wrap (v68 + 1);
let v75 : Int := IntKind.i64.wrap (v74.tdiv 8);
let v76 : Int := IntKind.i64.wrap (8 * v74.tmod 8);
let v77 : Int := shrI IntKind.u64 (v14.getD (mulE v75.toNat 1) 0) v76;
let v78 : Int := IntKind.u8.wrap v77;
let v79 : List Int := v73.set (mulE v74.toNat 1) v78;
let v80 : Int := IntKind.i64.wrap (v74 + 1);
let v81 : Int := IntKind.i64.wrap (v80.tdiv 8);
let v82 : Int := IntKind.i64.wrap (8 * v80.tmod 8);
let v83 : Int := shrI IntKind.u64 (v14.getD (mulE v81.toNat 1) 0) v82;
let v84 : Int := IntKind.u8.wrap v83;
let v85 : List Int := v79.set (mulE v80.toNat 1) v84;
let v86 : Int := IntKind.i64.wrap (v80 + 1);
let v87 : Int := IntKind.i64.wrap (v86.tdiv 8);
let v88 : Int := IntKind.i64.wrap (8 * v86.tmod 8);
let v89 : Int := shrI IntKind.u64 (v14.getD (mulE v87.toNat 1) 0) v88;
let v90 : Int := IntKind.u8.wrap v89;
let v91 : List Int := v85.set (mulE v86.toNat 1) v90;
let v92 : Int := IntKind.i64.wrap (v86 + 1);
let v93 : Int := IntKind.i64.wrap (v92.tdiv 8);
let v94 : Int := IntKind.i64.wrap (8 * v92.tmod 8);
let v95 : Int := shrI IntKind.u64 (v14.getD (mulE v93.toNat 1) 0) v94;
let v96 : Int := IntKind.u8.wrap v95;
let v97 : List Int := v91.set (mulE v92.toNat 1) v96;
let v98 : Int := IntKind.i64.wrap (v92 + 1);
let v99 : Int := IntKind.i64.wrap (v98.tdiv 8);
let v100 : Int := IntKind.i64.wrap (8 * v98.tmod 8);
let v101 : Int := shrI IntKind.u64 (v14.getD (mulE v99.toNat 1) 0) v100;
let v102 : Int := IntKind.u8.wrap v101;
let v103 : List Int := v97.set (mulE v98.toNat 1) v102;
let v104 : Int := IntKind.i64.wrap (v98 + 1);
let v105 : Int := IntKind.i64.wrap (v104.tdiv 8);
let v106 : Int := IntKind.i64.wrap (8 * v104.tmod 8);
let v107 : Int := shrI IntKind.u64 (v14.getD (mulE v105.toNat 1) 0) v106;
let v108 : Int := IntKind.u8.wrap v107;
let v109 : List Int := v103.set (mulE v104.toNat 1) v108;
let v110 : Int := IntKind.i64.wrap (v104 + 1);
let v111 : Int := IntKind.i64.wrap (v110.tdiv 8);
let v112 : Int := IntKind.i64.wrap (8 * v110.tmod 8);
let v113 : Int := shrI IntKind.u64 (v14.getD (mulE v111.toNat 1) 0) v112;
let v114 : Int := IntKind.u8.wrap v113;
let v115 : List Int := v109.set (mulE v110.toNat 1) v114;
let v116 : Int := IntKind.i64.wrap (v110 + 1);
let v117 : Int := IntKind.i64.wrap (v116.tdiv 8);
let v118 : Int := IntKind.i64.wrap (8 * v116.tmod 8);
let v119 : Int := shrI IntKind.u64 (v14.getD (mulE v117.toNat 1) 0) v118;
let v120 : Int := IntKind.u8.wrap v119;
let v121 : List Int := v115.set (mulE v116.toNat 1) v120;
let v122 : Int := IntKind.i64.wrap (v116 + 1);
let v123 : Int := IntKind.i64.wrap (v122.tdiv 8);
let v124 : Int := IntKind.i64.wrap (8 * v122.tmod 8);
let v125 : Int := shrI IntKind.u64 (v14.getD (mulE v123.toNat 1) 0) v124;
let v126 : Int := IntKind.u8.wrap v125;
let v127 : List Int := v121.set (mulE v122.toNat 1) v126;
let v128 : Int := IntKind.i64.wrap (v122 + 1);
let v129 : Int := IntKind.i64.wrap (v128.tdiv 8);
let v130 : Int := IntKind.i64.wrap (8 * v128.tmod 8);
let v131 : Int := shrI IntKind.u64 (v14.getD (mulE v129.toNat 1) 0) v130;
let v132 : Int := IntKind.u8.wrap v131;
let v133 : List Int := v127.set (mulE v128.toNat 1) v132;
let v134 : Int := IntKind.i64.wrap (v128 + 1);
let v135 : Int := IntKind.i64.wrap (v134.tdiv 8);
let v136 : Int := IntKind.i64.wrap (8 * v134.tmod 8);
let v137 : Int := shrI IntKind.u64 (v14.getD (mulE v135.toNat 1) 0) v136;
let v138 : Int := IntKind.u8.wrap v137;
let v139 : List Int := v133.set (mulE v134.toNat 1) v138;
let v140 : Int := IntKind.i64.wrap (v134 + 1);
let v141 : Int := IntKind.i64.wrap (v140.tdiv 8);
let v142 : Int := IntKind.i64.wrap (8 * v140.tmod 8);
let v143 : Int := shrI IntKind.u64 (v14.getD (mulE v141.toNat 1) 0) v142;
let v144 : Int := IntKind.u8.wrap v143;
let v145 : List Int := v139.set (mulE v140.toNat 1) v144;
let v146 : Int := IntKind.i64.wrap (v140 + 1);
let v147 : Int := IntKind.i64.wrap (v146.tdiv 8);
let v148 : Int := IntKind.i64.wrap (8 * v146.tmod 8);
let v149 : Int := shrI IntKind.u64 (v14.getD (mulE v147.toNat 1) 0) v148;
let v150 : Int := IntKind.u8.wrap v149;
let v151 : List Int := v145.set (mulE v146.toNat 1) v150;
let v152 : Int := IntKind.i64.wrap (v146 + 1);
let v153 : Int := IntKind.i64.wrap (v152.tdiv 8);
let v154 : Int := IntKind.i64.wrap (8 * v152.tmod 8);
let v155 : Int := shrI IntKind.u64 (v14.getD (mulE v153.toNat 1) 0) v154;
let v156 : Int := IntKind.u8.wrap v155;
let v157 : List Int := v151.set (mulE v152.toNat 1) v156;
let v158 : Int := IntKind.i64.wrap (v152 + 1);
let v159 : Int := IntKind.i64.wrap (v158.tdiv 8);
let v160 : Int := IntKind.i64.wrap (8 * v158.tmod 8);
let v161 : Int := shrI IntKind.u64 (v14.getD (mulE v159.toNat 1) 0) v160;
let v162 : Int := IntKind.u8.wrap v161;
let v163 : List Int := v157.set (mulE v158.toNat 1) v162;
let v164 : Int := IntKind.i64.wrap (v158 + 1);
let v165 : Int := IntKind.i64.wrap (v164.tdiv 8);
let v166 : Int := IntKind.i64.wrap (8 * v164.tmod 8);
let v167 : Int := shrI IntKind.u64 (v14.getD (mulE v165.toNat 1) 0) v166;
let v168 : Int := IntKind.u8.wrap v167;
let v169 : List Int := v163.set (mulE v164.toNat 1) v168;
let v170 : Int := IntKind.i64.wrap (v164 + 1);
let v171 : Int := IntKind.i64.wrap (v170.tdiv 8);
let v172 : Int := IntKind.i64.wrap (8 * v170.tmod 8);
let v173 : Int := shrI IntKind.u64 (v14.getD (mulE v171.toNat 1) 0) v172;
let v174 : Int := IntKind.u8.wrap v173;
let v175 : List Int := v169.set (mulE v170.toNat 1) v174;
let v176 : Int := IntKind.i64.wrap (v170 + 1);
let v177 : Int := IntKind.i64.wrap (v176.tdiv 8);
let v178 : Int := IntKind.i64.wrap (8 * v176.tmod 8);
let v179 : Int := shrI IntKind.u64 (v14.getD (mulE v177.toNat 1) 0) v178;
let v180 : Int := IntKind.u8.wrap v179;
let v181 : List Int := v175.set (mulE v176.toNat 1) v180;
let v182 : Int := IntKind.i64.wrap (v176 + 1);
let v183 : Int := IntKind.i64.wrap (v182.tdiv 8);
let v184 : Int := IntKind.i64.wrap (8 * v182.tmod 8);
let v185 : Int := shrI IntKind.u64 (v14.getD (mulE v183.toNat 1) 0) v184;
let v186 : Int := IntKind.u8.wrap v185;
let v187 : List Int := v181.set (mulE v182.toNat 1) v186;
let v188 : Int := IntKind.i64.wrap (v182 + 1);
let v189 : Int := IntKind.i64.wrap (v188.tdiv 8);
let v190 : Int := IntKind.i64.wrap (8 * v188.tmod 8);
let v191 : Int := shrI IntKind.u64 (v14.getD (mulE v189.toNat 1) 0) v190;
let v192 : Int := IntKind.u8.wrap v191;
let v193 : List Int := v187.set (mulE v188.toNat 1) v192;
let v194 : Int := IntKind.i64.wrap (v188 + 1);
let v195 : Int := IntKind.i64.wrap (v194.tdiv 8);
let v196 : Int := IntKind.i64.wrap (8 * v194.tmod 8);
let v197 : Int := shrI IntKind.u64 (v14.getD (mulE v195.toNat 1) 0) v196;
let v198 : Int := IntKind.u8.wrap v197;
let v199 : List Int := v193.set (mulE v194.toNat 1) v198;
let v200 : Int := IntKind.i64.wrap (v194 + 1);
let v201 : Int := IntKind.i64.wrap (v200.tdiv 8);
let v202 : Int := IntKind.i64.wrap (8 * v200.tmod 8);
let v203 : Int := shrI IntKind.u64 (v14.getD (mulE v201.toNat 1) 0) v202;
let v204 : Int := IntKind.u8.wrap v203;
let v205 : List Int := v199.set (mulE v200.toNat 1) v204;
v205
theorem feR_eq (x : List Int) : feR x = feB (leastL x) := by kernel_rfl
theorem fe_eq (x : List Int) : feL x = feB (leastL x) := (feL_eq x).trans (feR_eq x)
def bytesW (w0 w1 w2 w3 : Int) : List Int := [IntKind.u8.wrap (shrI .u64 w0 0), IntKind.u8.wrap (shrI .u64 w0 8), IntKind.u8.wrap (shrI .u64 w0 16), IntKind.u8.wrap (shrI .u64 w0 24), IntKind.u8.wrap (shrI .u64 w0 32), IntKind.u8.wrap (shrI .u64 w0 40), IntKind.u8.wrap (shrI .u64 w0 48), IntKind.u8.wrap (shrI .u64 w0 56), IntKind.u8.wrap (shrI .u64 w1 0), IntKind.u8.wrap (shrI .u64 w1 8), IntKind.u8.wrap (shrI .u64 w1 16), IntKind.u8.wrap (shrI .u64 w1 24), IntKind.u8.wrap (shrI .u64 w1 32), IntKind.u8.wrap (shrI .u64 w1 40), IntKind.u8.wrap (shrI .u64 w1 48), IntKind.u8.wrap (shrI .u64 w1 56), IntKind.u8.wrap (shrI .u64 w2 0), IntKind.u8.wrap (shrI .u64 w2 8), IntKind.u8.wrap (shrI .u64 w2 16), IntKind.u8.wrap (shrI .u64 w2 24), IntKind.u8.wrap (shrI .u64 w2 32), IntKind.u8.wrap (shrI .u64 w2 40), IntKind.u8.wrap (shrI .u64 w2 48), IntKind.u8.wrap (shrI .u64 w2 56), IntKind.u8.wrap (shrI .u64 w3 0), IntKind.u8.wrap (shrI .u64 w3 8), IntKind.u8.wrap (shrI .u64 w3 16), IntKind.u8.wrap (shrI .u64 w3 24), IntKind.u8.wrap (shrI .u64 w3 32), IntKind.u8.wrap (shrI .u64 w3 40), IntKind.u8.wrap (shrI .u64 w3 48), IntKind.u8.wrap (shrI .u64 w3 56)]
theorem feB_eq (c0 c1 c2 c3 c4 : Int) : feB [c0, c1, c2, c3, c4] = bytesW (orI .u64 c0 (shlI .u64 c1 51)) (orI .u64 (shrI .u64 c1 13) (shlI .u64 c2 38)) (orI .u64 (shrI .u64 c2 26) (shlI .u64 c3 25)) (orI .u64 (shrI .u64 c3 39) (shlI .u64 c4 12)) := by kernel_rfl
theorem byteW (w i : Nat) (hi : i ≤ 64) : IntKind.u8.wrap (shrI .u64 (w : Int) (i : Int)) = ((w / 2 ^ i % 256 : Nat) : Int) := by
  rw [shrN (k := .u64) hi, wm8]
theorem digs32 (v : Nat) : digs 256 32 v = [v / 1 % 256, v / 256 % 256, v / 65536 % 256, v / 16777216 % 256, v / 4294967296 % 256, v / 1099511627776 % 256, v / 281474976710656 % 256, v / 72057594037927936 % 256, v / 18446744073709551616 % 256, v / 4722366482869645213696 % 256, v / 1208925819614629174706176 % 256, v / 309485009821345068724781056 % 256, v / 79228162514264337593543950336 % 256, v / 20282409603651670423947251286016 % 256, v / 5192296858534827628530496329220096 % 256, v / 1329227995784915872903807060280344576 % 256, v / 340282366920938463463374607431768211456 % 256, v / 87112285931760246646623899502532662132736 % 256, v / 22300745198530623141535718272648361505980416 % 256, v / 5708990770823839524233143877797980545530986496 % 256, v / 1461501637330902918203684832716283019655932542976 % 256, v / 374144419156711147060143317175368453031918731001856 % 256, v / 95780971304118053647396689196894323976171195136475136 % 256, v / 24519928653854221733733552434404946937899825954937634816 % 256, v / 6277101735386680763835789423207666416102355444464034512896 % 256, v / 1606938044258990275541962092341162602522202993782792835301376 % 256, v / 411376139330301510538742295639337626245683966408394965837152256 % 256, v / 105312291668557186697918027683670432318895095400549111254310977536 % 256, v / 26959946667150639794667015087019630673637144422540572481103610249216 % 256, v / 6901746346790563787434755862277025452451108972170386555162524223799296 % 256, v / 1766847064778384329583297500742918515827483896875618958121606201292619776 % 256, v / 452312848583266388373324160190187140051835877600158453279131187530910662656 % 256] := by
  simp [digs, Nat.div_div_eq_div_mul]
theorem fe_el {x : List Int} {v : Nat} (hx : El x v) : feL x = nats (digs 256 32 v) := by
  obtain ⟨c0, c1, c2, c3, c4, e, h0, h1, h2, h3, h4, hv⟩ := least_el hx
  rw [fe_eq, e]
  refine (feB_eq c0 c1 c2 c3 c4).trans ?_
  rw [show orI .u64 (c0 : Int) (shlI .u64 (c1 : Int) 51) = ((c0 + c1 % 8192 * 2251799813685248 : Nat) : Int) from orW 51 (by decide) (by omega)]
  rw [show shrI .u64 (c1 : Int) 13 = ((c1 / 8192 : Nat) : Int) from shrN (k := .u64) (m := 13) (by decide) c1]
  rw [show shrI .u64 (c2 : Int) 26 = ((c2 / 67108864 : Nat) : Int) from shrN (k := .u64) (m := 26) (by decide) c2]
  rw [show shrI .u64 (c3 : Int) 39 = ((c3 / 549755813888 : Nat) : Int) from shrN (k := .u64) (m := 39) (by decide) c3]
  rw [show orI .u64 ((c1 / 8192 : Nat) : Int) (shlI .u64 (c2 : Int) 38) = ((c1 / 8192 + c2 % 67108864 * 274877906944 : Nat) : Int) from orW 38 (by decide) (by omega)]
  rw [show orI .u64 ((c2 / 67108864 : Nat) : Int) (shlI .u64 (c3 : Int) 25) = ((c2 / 67108864 + c3 % 549755813888 * 33554432 : Nat) : Int) from orW 25 (by decide) (by omega)]
  rw [show orI .u64 ((c3 / 549755813888 : Nat) : Int) (shlI .u64 (c4 : Int) 12) = ((c3 / 549755813888 + c4 % 4503599627370496 * 4096 : Nat) : Int) from orW 12 (by decide) (by omega)]
  have e0 : c0 + c1 % 8192 * 2251799813685248 = v % 18446744073709551616 := by rw [← hv]; unfold val5; omega
  have e1 : c1 / 8192 + c2 % 67108864 * 274877906944 = v / 18446744073709551616 % 18446744073709551616 := by rw [← hv]; unfold val5; omega
  have e2 : c2 / 67108864 + c3 % 549755813888 * 33554432 = v / 340282366920938463463374607431768211456 % 18446744073709551616 := by rw [← hv]; unfold val5; omega
  have e3 : c3 / 549755813888 + c4 % 4503599627370496 * 4096 = v / 6277101735386680763835789423207666416102355444464034512896 := by rw [← hv]; unfold val5; omega
  rw [e0, e1, e2, e3, digs32]
  clear e0 e1 e2 e3 hv h0 h1 h2 h3 h4 e hx
  unfold bytesW
  rw [show IntKind.u8.wrap (shrI .u64 ((v % 18446744073709551616 : Nat) : Int) 0) = ((v / 1 % 256 : Nat) : Int) from (byteW _ 0 (by decide)).trans (congrArg Int.ofNat (show (v % 18446744073709551616) / 1 % 256 = v / 1 % 256 by omega)),
    show IntKind.u8.wrap (shrI .u64 ((v % 18446744073709551616 : Nat) : Int) 8) = ((v / 256 % 256 : Nat) : Int) from (byteW _ 8 (by decide)).trans (congrArg Int.ofNat (show (v % 18446744073709551616) / 256 % 256 = v / 256 % 256 by omega)),
    show IntKind.u8.wrap (shrI .u64 ((v % 18446744073709551616 : Nat) : Int) 16) = ((v / 65536 % 256 : Nat) : Int) from (byteW _ 16 (by decide)).trans (congrArg Int.ofNat (show (v % 18446744073709551616) / 65536 % 256 = v / 65536 % 256 by omega)),
    show IntKind.u8.wrap (shrI .u64 ((v % 18446744073709551616 : Nat) : Int) 24) = ((v / 16777216 % 256 : Nat) : Int) from (byteW _ 24 (by decide)).trans (congrArg Int.ofNat (show (v % 18446744073709551616) / 16777216 % 256 = v / 16777216 % 256 by omega)),
    show IntKind.u8.wrap (shrI .u64 ((v % 18446744073709551616 : Nat) : Int) 32) = ((v / 4294967296 % 256 : Nat) : Int) from (byteW _ 32 (by decide)).trans (congrArg Int.ofNat (show (v % 18446744073709551616) / 4294967296 % 256 = v / 4294967296 % 256 by omega)),
    show IntKind.u8.wrap (shrI .u64 ((v % 18446744073709551616 : Nat) : Int) 40) = ((v / 1099511627776 % 256 : Nat) : Int) from (byteW _ 40 (by decide)).trans (congrArg Int.ofNat (show (v % 18446744073709551616) / 1099511627776 % 256 = v / 1099511627776 % 256 by omega)),
    show IntKind.u8.wrap (shrI .u64 ((v % 18446744073709551616 : Nat) : Int) 48) = ((v / 281474976710656 % 256 : Nat) : Int) from (byteW _ 48 (by decide)).trans (congrArg Int.ofNat (show (v % 18446744073709551616) / 281474976710656 % 256 = v / 281474976710656 % 256 by omega)),
    show IntKind.u8.wrap (shrI .u64 ((v % 18446744073709551616 : Nat) : Int) 56) = ((v / 72057594037927936 % 256 : Nat) : Int) from (byteW _ 56 (by decide)).trans (congrArg Int.ofNat (show (v % 18446744073709551616) / 72057594037927936 % 256 = v / 72057594037927936 % 256 by omega)),
    show IntKind.u8.wrap (shrI .u64 ((v / 18446744073709551616 % 18446744073709551616 : Nat) : Int) 0) = ((v / 18446744073709551616 % 256 : Nat) : Int) from (byteW _ 0 (by decide)).trans (congrArg Int.ofNat (show (v / 18446744073709551616 % 18446744073709551616) / 1 % 256 = v / 18446744073709551616 % 256 by omega)),
    show IntKind.u8.wrap (shrI .u64 ((v / 18446744073709551616 % 18446744073709551616 : Nat) : Int) 8) = ((v / 4722366482869645213696 % 256 : Nat) : Int) from (byteW _ 8 (by decide)).trans (congrArg Int.ofNat (show (v / 18446744073709551616 % 18446744073709551616) / 256 % 256 = v / 4722366482869645213696 % 256 by omega)),
    show IntKind.u8.wrap (shrI .u64 ((v / 18446744073709551616 % 18446744073709551616 : Nat) : Int) 16) = ((v / 1208925819614629174706176 % 256 : Nat) : Int) from (byteW _ 16 (by decide)).trans (congrArg Int.ofNat (show (v / 18446744073709551616 % 18446744073709551616) / 65536 % 256 = v / 1208925819614629174706176 % 256 by omega)),
    show IntKind.u8.wrap (shrI .u64 ((v / 18446744073709551616 % 18446744073709551616 : Nat) : Int) 24) = ((v / 309485009821345068724781056 % 256 : Nat) : Int) from (byteW _ 24 (by decide)).trans (congrArg Int.ofNat (show (v / 18446744073709551616 % 18446744073709551616) / 16777216 % 256 = v / 309485009821345068724781056 % 256 by omega)),
    show IntKind.u8.wrap (shrI .u64 ((v / 18446744073709551616 % 18446744073709551616 : Nat) : Int) 32) = ((v / 79228162514264337593543950336 % 256 : Nat) : Int) from (byteW _ 32 (by decide)).trans (congrArg Int.ofNat (show (v / 18446744073709551616 % 18446744073709551616) / 4294967296 % 256 = v / 79228162514264337593543950336 % 256 by omega)),
    show IntKind.u8.wrap (shrI .u64 ((v / 18446744073709551616 % 18446744073709551616 : Nat) : Int) 40) = ((v / 20282409603651670423947251286016 % 256 : Nat) : Int) from (byteW _ 40 (by decide)).trans (congrArg Int.ofNat (show (v / 18446744073709551616 % 18446744073709551616) / 1099511627776 % 256 = v / 20282409603651670423947251286016 % 256 by omega)),
    show IntKind.u8.wrap (shrI .u64 ((v / 18446744073709551616 % 18446744073709551616 : Nat) : Int) 48) = ((v / 5192296858534827628530496329220096 % 256 : Nat) : Int) from (byteW _ 48 (by decide)).trans (congrArg Int.ofNat (show (v / 18446744073709551616 % 18446744073709551616) / 281474976710656 % 256 = v / 5192296858534827628530496329220096 % 256 by omega)),
    show IntKind.u8.wrap (shrI .u64 ((v / 18446744073709551616 % 18446744073709551616 : Nat) : Int) 56) = ((v / 1329227995784915872903807060280344576 % 256 : Nat) : Int) from (byteW _ 56 (by decide)).trans (congrArg Int.ofNat (show (v / 18446744073709551616 % 18446744073709551616) / 72057594037927936 % 256 = v / 1329227995784915872903807060280344576 % 256 by omega)),
    show IntKind.u8.wrap (shrI .u64 ((v / 340282366920938463463374607431768211456 % 18446744073709551616 : Nat) : Int) 0) = ((v / 340282366920938463463374607431768211456 % 256 : Nat) : Int) from (byteW _ 0 (by decide)).trans (congrArg Int.ofNat (show (v / 340282366920938463463374607431768211456 % 18446744073709551616) / 1 % 256 = v / 340282366920938463463374607431768211456 % 256 by omega)),
    show IntKind.u8.wrap (shrI .u64 ((v / 340282366920938463463374607431768211456 % 18446744073709551616 : Nat) : Int) 8) = ((v / 87112285931760246646623899502532662132736 % 256 : Nat) : Int) from (byteW _ 8 (by decide)).trans (congrArg Int.ofNat (show (v / 340282366920938463463374607431768211456 % 18446744073709551616) / 256 % 256 = v / 87112285931760246646623899502532662132736 % 256 by omega)),
    show IntKind.u8.wrap (shrI .u64 ((v / 340282366920938463463374607431768211456 % 18446744073709551616 : Nat) : Int) 16) = ((v / 22300745198530623141535718272648361505980416 % 256 : Nat) : Int) from (byteW _ 16 (by decide)).trans (congrArg Int.ofNat (show (v / 340282366920938463463374607431768211456 % 18446744073709551616) / 65536 % 256 = v / 22300745198530623141535718272648361505980416 % 256 by omega)),
    show IntKind.u8.wrap (shrI .u64 ((v / 340282366920938463463374607431768211456 % 18446744073709551616 : Nat) : Int) 24) = ((v / 5708990770823839524233143877797980545530986496 % 256 : Nat) : Int) from (byteW _ 24 (by decide)).trans (congrArg Int.ofNat (show (v / 340282366920938463463374607431768211456 % 18446744073709551616) / 16777216 % 256 = v / 5708990770823839524233143877797980545530986496 % 256 by omega)),
    show IntKind.u8.wrap (shrI .u64 ((v / 340282366920938463463374607431768211456 % 18446744073709551616 : Nat) : Int) 32) = ((v / 1461501637330902918203684832716283019655932542976 % 256 : Nat) : Int) from (byteW _ 32 (by decide)).trans (congrArg Int.ofNat (show (v / 340282366920938463463374607431768211456 % 18446744073709551616) / 4294967296 % 256 = v / 1461501637330902918203684832716283019655932542976 % 256 by omega)),
    show IntKind.u8.wrap (shrI .u64 ((v / 340282366920938463463374607431768211456 % 18446744073709551616 : Nat) : Int) 40) = ((v / 374144419156711147060143317175368453031918731001856 % 256 : Nat) : Int) from (byteW _ 40 (by decide)).trans (congrArg Int.ofNat (show (v / 340282366920938463463374607431768211456 % 18446744073709551616) / 1099511627776 % 256 = v / 374144419156711147060143317175368453031918731001856 % 256 by omega)),
    show IntKind.u8.wrap (shrI .u64 ((v / 340282366920938463463374607431768211456 % 18446744073709551616 : Nat) : Int) 48) = ((v / 95780971304118053647396689196894323976171195136475136 % 256 : Nat) : Int) from (byteW _ 48 (by decide)).trans (congrArg Int.ofNat (show (v / 340282366920938463463374607431768211456 % 18446744073709551616) / 281474976710656 % 256 = v / 95780971304118053647396689196894323976171195136475136 % 256 by omega)),
    show IntKind.u8.wrap (shrI .u64 ((v / 340282366920938463463374607431768211456 % 18446744073709551616 : Nat) : Int) 56) = ((v / 24519928653854221733733552434404946937899825954937634816 % 256 : Nat) : Int) from (byteW _ 56 (by decide)).trans (congrArg Int.ofNat (show (v / 340282366920938463463374607431768211456 % 18446744073709551616) / 72057594037927936 % 256 = v / 24519928653854221733733552434404946937899825954937634816 % 256 by omega)),
    show IntKind.u8.wrap (shrI .u64 ((v / 6277101735386680763835789423207666416102355444464034512896 : Nat) : Int) 0) = ((v / 6277101735386680763835789423207666416102355444464034512896 % 256 : Nat) : Int) from (byteW _ 0 (by decide)).trans (congrArg Int.ofNat (show (v / 6277101735386680763835789423207666416102355444464034512896) / 1 % 256 = v / 6277101735386680763835789423207666416102355444464034512896 % 256 by omega)),
    show IntKind.u8.wrap (shrI .u64 ((v / 6277101735386680763835789423207666416102355444464034512896 : Nat) : Int) 8) = ((v / 1606938044258990275541962092341162602522202993782792835301376 % 256 : Nat) : Int) from (byteW _ 8 (by decide)).trans (congrArg Int.ofNat (show (v / 6277101735386680763835789423207666416102355444464034512896) / 256 % 256 = v / 1606938044258990275541962092341162602522202993782792835301376 % 256 by omega)),
    show IntKind.u8.wrap (shrI .u64 ((v / 6277101735386680763835789423207666416102355444464034512896 : Nat) : Int) 16) = ((v / 411376139330301510538742295639337626245683966408394965837152256 % 256 : Nat) : Int) from (byteW _ 16 (by decide)).trans (congrArg Int.ofNat (show (v / 6277101735386680763835789423207666416102355444464034512896) / 65536 % 256 = v / 411376139330301510538742295639337626245683966408394965837152256 % 256 by omega)),
    show IntKind.u8.wrap (shrI .u64 ((v / 6277101735386680763835789423207666416102355444464034512896 : Nat) : Int) 24) = ((v / 105312291668557186697918027683670432318895095400549111254310977536 % 256 : Nat) : Int) from (byteW _ 24 (by decide)).trans (congrArg Int.ofNat (show (v / 6277101735386680763835789423207666416102355444464034512896) / 16777216 % 256 = v / 105312291668557186697918027683670432318895095400549111254310977536 % 256 by omega)),
    show IntKind.u8.wrap (shrI .u64 ((v / 6277101735386680763835789423207666416102355444464034512896 : Nat) : Int) 32) = ((v / 26959946667150639794667015087019630673637144422540572481103610249216 % 256 : Nat) : Int) from (byteW _ 32 (by decide)).trans (congrArg Int.ofNat (show (v / 6277101735386680763835789423207666416102355444464034512896) / 4294967296 % 256 = v / 26959946667150639794667015087019630673637144422540572481103610249216 % 256 by omega)),
    show IntKind.u8.wrap (shrI .u64 ((v / 6277101735386680763835789423207666416102355444464034512896 : Nat) : Int) 40) = ((v / 6901746346790563787434755862277025452451108972170386555162524223799296 % 256 : Nat) : Int) from (byteW _ 40 (by decide)).trans (congrArg Int.ofNat (show (v / 6277101735386680763835789423207666416102355444464034512896) / 1099511627776 % 256 = v / 6901746346790563787434755862277025452451108972170386555162524223799296 % 256 by omega)),
    show IntKind.u8.wrap (shrI .u64 ((v / 6277101735386680763835789423207666416102355444464034512896 : Nat) : Int) 48) = ((v / 1766847064778384329583297500742918515827483896875618958121606201292619776 % 256 : Nat) : Int) from (byteW _ 48 (by decide)).trans (congrArg Int.ofNat (show (v / 6277101735386680763835789423207666416102355444464034512896) / 281474976710656 % 256 = v / 1766847064778384329583297500742918515827483896875618958121606201292619776 % 256 by omega)),
    show IntKind.u8.wrap (shrI .u64 ((v / 6277101735386680763835789423207666416102355444464034512896 : Nat) : Int) 56) = ((v / 452312848583266388373324160190187140051835877600158453279131187530910662656 % 256 : Nat) : Int) from (byteW _ 56 (by decide)).trans (congrArg Int.ofNat (show (v / 6277101735386680763835789423207666416102355444464034512896) / 72057594037927936 % 256 = v / 452312848583266388373324160190187140051835877600158453279131187530910662656 % 256 by omega))]
  rfl

/-! ### from bytes -/
def loadW (w0 w1 w2 w3 : Int) : List Int :=
  [IntKind.u64.wrap (andI .u64 w0 2251799813685247 + IntKind.u64.wrap (19 * shrI .u64 w3 63)), andI .u64 (orI .u64 (shrI .u64 w0 51) (shlI .u64 w1 13)) 2251799813685247, andI .u64 (orI .u64 (shrI .u64 w1 38) (shlI .u64 w2 26)) 2251799813685247, andI .u64 (orI .u64 (shrI .u64 w2 25) (shlI .u64 w3 39)) 2251799813685247, andI .u64 (shrI .u64 w3 12) 2251799813685247]
def word8 (x0 x1 x2 x3 x4 x5 x6 x7 : Int) : Int := (orI .u64 (orI .u64 (orI .u64 (orI .u64 (orI .u64 (orI .u64 (orI .u64 (orI .u64 0 (shlI .u64 (IntKind.u64.wrap x0) 0)) (shlI .u64 (IntKind.u64.wrap x1) 8)) (shlI .u64 (IntKind.u64.wrap x2) 16)) (shlI .u64 (IntKind.u64.wrap x3) 24)) (shlI .u64 (IntKind.u64.wrap x4) 32)) (shlI .u64 (IntKind.u64.wrap x5) 40)) (shlI .u64 (IntKind.u64.wrap x6) 48)) (shlI .u64 (IntKind.u64.wrap x7) 56))
theorem load_eq (x0 x1 x2 x3 x4 x5 x6 x7 x8 x9 x10 x11 x12 x13 x14 x15 x16 x17 x18 x19 x20 x21 x22 x23 x24 x25 x26 x27 x28 x29 x30 x31 : Int) : loadL [x0, x1, x2, x3, x4, x5, x6, x7, x8, x9, x10, x11, x12, x13, x14, x15, x16, x17, x18, x19, x20, x21, x22, x23, x24, x25, x26, x27, x28, x29, x30, x31] = loadW (word8 x0 x1 x2 x3 x4 x5 x6 x7) (word8 x8 x9 x10 x11 x12 x13 x14 x15) (word8 x16 x17 x18 x19 x20 x21 x22 x23) (word8 x24 x25 x26 x27 x28 x29 x30 x31) := by kernel_rfl
theorem word8_nat {x0 x1 x2 x3 x4 x5 x6 x7 : Nat} (h0 : x0 < 256) (h1 : x1 < 256) (h2 : x2 < 256) (h3 : x3 < 256) (h4 : x4 < 256) (h5 : x5 < 256) (h6 : x6 < 256) (h7 : x7 < 256) :
    word8 (x0 : Int) (x1 : Int) (x2 : Int) (x3 : Int) (x4 : Int) (x5 : Int) (x6 : Int) (x7 : Int) = ((x0 * 1 + x1 * 256 + x2 * 65536 + x3 * 16777216 + x4 * 4294967296 + x5 * 1099511627776 + x6 * 281474976710656 + x7 * 72057594037927936 : Nat) : Int) := by
  unfold word8
  rw [w64 (n := x0) (by omega), w64 (n := x1) (by omega), w64 (n := x2) (by omega), w64 (n := x3) (by omega), w64 (n := x4) (by omega), w64 (n := x5) (by omega), w64 (n := x6) (by omega), w64 (n := x7) (by omega)]
  rw [show (0 : Int) = ((0 : Nat) : Int) from rfl]
  rw [show orI .u64 ((0 : Nat) : Int) (shlI .u64 (x0 : Int) ((0 : Nat) : Int)) = ((0 + x0 * 1 : Nat) : Int) from (orW 0 (by decide) (by omega)).trans (congrArg Int.ofNat (show 0 + x0 % 18446744073709551616 * 1 = 0 + x0 * 1 by omega))]
  rw [show orI .u64 ((0 + x0 * 1 : Nat) : Int) (shlI .u64 (x1 : Int) 8) = ((0 + x0 * 1 + x1 * 256 : Nat) : Int) from (orW 8 (by decide) (by omega)).trans (congrArg Int.ofNat (show 0 + x0 * 1 + x1 % 72057594037927936 * 256 = 0 + x0 * 1 + x1 * 256 by omega))]
  rw [show orI .u64 ((0 + x0 * 1 + x1 * 256 : Nat) : Int) (shlI .u64 (x2 : Int) 16) = ((0 + x0 * 1 + x1 * 256 + x2 * 65536 : Nat) : Int) from (orW 16 (by decide) (by omega)).trans (congrArg Int.ofNat (show 0 + x0 * 1 + x1 * 256 + x2 % 281474976710656 * 65536 = 0 + x0 * 1 + x1 * 256 + x2 * 65536 by omega))]
  rw [show orI .u64 ((0 + x0 * 1 + x1 * 256 + x2 * 65536 : Nat) : Int) (shlI .u64 (x3 : Int) 24) = ((0 + x0 * 1 + x1 * 256 + x2 * 65536 + x3 * 16777216 : Nat) : Int) from (orW 24 (by decide) (by omega)).trans (congrArg Int.ofNat (show 0 + x0 * 1 + x1 * 256 + x2 * 65536 + x3 % 1099511627776 * 16777216 = 0 + x0 * 1 + x1 * 256 + x2 * 65536 + x3 * 16777216 by omega))]
  rw [show orI .u64 ((0 + x0 * 1 + x1 * 256 + x2 * 65536 + x3 * 16777216 : Nat) : Int) (shlI .u64 (x4 : Int) 32) = ((0 + x0 * 1 + x1 * 256 + x2 * 65536 + x3 * 16777216 + x4 * 4294967296 : Nat) : Int) from (orW 32 (by decide) (by omega)).trans (congrArg Int.ofNat (show 0 + x0 * 1 + x1 * 256 + x2 * 65536 + x3 * 16777216 + x4 % 4294967296 * 4294967296 = 0 + x0 * 1 + x1 * 256 + x2 * 65536 + x3 * 16777216 + x4 * 4294967296 by omega))]
  rw [show orI .u64 ((0 + x0 * 1 + x1 * 256 + x2 * 65536 + x3 * 16777216 + x4 * 4294967296 : Nat) : Int) (shlI .u64 (x5 : Int) 40) = ((0 + x0 * 1 + x1 * 256 + x2 * 65536 + x3 * 16777216 + x4 * 4294967296 + x5 * 1099511627776 : Nat) : Int) from (orW 40 (by decide) (by omega)).trans (congrArg Int.ofNat (show 0 + x0 * 1 + x1 * 256 + x2 * 65536 + x3 * 16777216 + x4 * 4294967296 + x5 % 16777216 * 1099511627776 = 0 + x0 * 1 + x1 * 256 + x2 * 65536 + x3 * 16777216 + x4 * 4294967296 + x5 * 1099511627776 by omega))]
  rw [show orI .u64 ((0 + x0 * 1 + x1 * 256 + x2 * 65536 + x3 * 16777216 + x4 * 4294967296 + x5 * 1099511627776 : Nat) : Int) (shlI .u64 (x6 : Int) 48) = ((0 + x0 * 1 + x1 * 256 + x2 * 65536 + x3 * 16777216 + x4 * 4294967296 + x5 * 1099511627776 + x6 * 281474976710656 : Nat) : Int) from (orW 48 (by decide) (by omega)).trans (congrArg Int.ofNat (show 0 + x0 * 1 + x1 * 256 + x2 * 65536 + x3 * 16777216 + x4 * 4294967296 + x5 * 1099511627776 + x6 % 65536 * 281474976710656 = 0 + x0 * 1 + x1 * 256 + x2 * 65536 + x3 * 16777216 + x4 * 4294967296 + x5 * 1099511627776 + x6 * 281474976710656 by omega))]
  rw [show orI .u64 ((0 + x0 * 1 + x1 * 256 + x2 * 65536 + x3 * 16777216 + x4 * 4294967296 + x5 * 1099511627776 + x6 * 281474976710656 : Nat) : Int) (shlI .u64 (x7 : Int) 56) = ((0 + x0 * 1 + x1 * 256 + x2 * 65536 + x3 * 16777216 + x4 * 4294967296 + x5 * 1099511627776 + x6 * 281474976710656 + x7 * 72057594037927936 : Nat) : Int) from (orW 56 (by decide) (by omega)).trans (congrArg Int.ofNat (show 0 + x0 * 1 + x1 * 256 + x2 * 65536 + x3 * 16777216 + x4 * 4294967296 + x5 * 1099511627776 + x6 * 281474976710656 + x7 % 256 * 72057594037927936 = 0 + x0 * 1 + x1 * 256 + x2 * 65536 + x3 * 16777216 + x4 * 4294967296 + x5 * 1099511627776 + x6 * 281474976710656 + x7 * 72057594037927936 by omega))]
  congr 1; omega

theorem loadW_el {w0 w1 w2 w3 : Nat} (h0 : w0 < 18446744073709551616) (h1 : w1 < 18446744073709551616) (h2 : w2 < 18446744073709551616) (h3 : w3 < 18446744073709551616) : El (loadW (w0 : Int) (w1 : Int) (w2 : Int) (w3 : Int)) ((w0 + 18446744073709551616 * w1 + 340282366920938463463374607431768211456 * w2 + 6277101735386680763835789423207666416102355444464034512896 * w3) % p25519) := by
  unfold loadW
  rw [and51 h0, shr51]
  rw [show shrI .u64 (w3 : Int) 63 = ((w3 / 9223372036854775808 : Nat) : Int) from shrN (k := .u64) (m := 63) (by decide) w3]
  rw [show shrI .u64 (w3 : Int) 12 = ((w3 / 4096 : Nat) : Int) from shrN (k := .u64) (m := 12) (by decide) w3]
  rw [show shrI .u64 (w1 : Int) 38 = ((w1 / 274877906944 : Nat) : Int) from shrN (k := .u64) (m := 38) (by decide) w1]
  rw [show shrI .u64 (w2 : Int) 25 = ((w2 / 33554432 : Nat) : Int) from shrN (k := .u64) (m := 25) (by decide) w2]
  rw [show orI .u64 ((w0 / 2251799813685248 : Nat) : Int) (shlI .u64 (w1 : Int) 13) = ((w0 / 2251799813685248 + w1 % 2251799813685248 * 8192 : Nat) : Int) from orW 13 (by decide) (by omega)]
  rw [show orI .u64 ((w1 / 274877906944 : Nat) : Int) (shlI .u64 (w2 : Int) 26) = ((w1 / 274877906944 + w2 % 274877906944 * 67108864 : Nat) : Int) from orW 26 (by decide) (by omega)]
  rw [show orI .u64 ((w2 / 33554432 : Nat) : Int) (shlI .u64 (w3 : Int) 39) = ((w2 / 33554432 + w3 % 33554432 * 549755813888 : Nat) : Int) from orW 39 (by decide) (by omega)]
  rw [and51 (by omega), and51 (by omega), and51 (by omega), and51 (by omega)]
  rw [show IntKind.u64.wrap (19 * ((w3 / 9223372036854775808 : Nat) : Int)) = ((19 * (w3 / 9223372036854775808) : Nat) : Int) from w64 (n := 19 * (w3 / 9223372036854775808)) (by omega)]
  rw [show IntKind.u64.wrap (((w0 % 2251799813685248 : Nat) : Int) + ((19 * (w3 / 9223372036854775808) : Nat) : Int)) = ((w0 % 2251799813685248 + 19 * (w3 / 9223372036854775808) : Nat) : Int) from w64 (n := w0 % 2251799813685248 + 19 * (w3 / 9223372036854775808)) (by omega)]
  refine ⟨_, _, _, _, _, rfl, ⟨by omega, by omega, by omega, by omega, by omega⟩, mod_of (q := w3 / 9223372036854775808) ?_⟩
  unfold val5 p25519
  omega
theorem load32 {x0 x1 x2 x3 x4 x5 x6 x7 x8 x9 x10 x11 x12 x13 x14 x15 x16 x17 x18 x19 x20 x21 x22 x23 x24 x25 x26 x27 x28 x29 x30 x31 : Nat} (h0 : x0 < 256) (h1 : x1 < 256) (h2 : x2 < 256) (h3 : x3 < 256) (h4 : x4 < 256) (h5 : x5 < 256) (h6 : x6 < 256) (h7 : x7 < 256) (h8 : x8 < 256) (h9 : x9 < 256) (h10 : x10 < 256) (h11 : x11 < 256) (h12 : x12 < 256) (h13 : x13 < 256) (h14 : x14 < 256) (h15 : x15 < 256) (h16 : x16 < 256) (h17 : x17 < 256) (h18 : x18 < 256) (h19 : x19 < 256) (h20 : x20 < 256) (h21 : x21 < 256) (h22 : x22 < 256) (h23 : x23 < 256) (h24 : x24 < 256) (h25 : x25 < 256) (h26 : x26 < 256) (h27 : x27 < 256) (h28 : x28 < 256) (h29 : x29 < 256) (h30 : x30 < 256) (h31 : x31 < 256) : El (loadL (nats [x0, x1, x2, x3, x4, x5, x6, x7, x8, x9, x10, x11, x12, x13, x14, x15, x16, x17, x18, x19, x20, x21, x22, x23, x24, x25, x26, x27, x28, x29, x30, x31])) (valB 256 [x0, x1, x2, x3, x4, x5, x6, x7, x8, x9, x10, x11, x12, x13, x14, x15, x16, x17, x18, x19, x20, x21, x22, x23, x24, x25, x26, x27, x28, x29, x30, x31] % p25519) := by
  rw [show loadL (nats [x0, x1, x2, x3, x4, x5, x6, x7, x8, x9, x10, x11, x12, x13, x14, x15, x16, x17, x18, x19, x20, x21, x22, x23, x24, x25, x26, x27, x28, x29, x30, x31]) = _ from load_eq (x0 : Int) (x1 : Int) (x2 : Int) (x3 : Int) (x4 : Int) (x5 : Int) (x6 : Int) (x7 : Int) (x8 : Int) (x9 : Int) (x10 : Int) (x11 : Int) (x12 : Int) (x13 : Int) (x14 : Int) (x15 : Int) (x16 : Int) (x17 : Int) (x18 : Int) (x19 : Int) (x20 : Int) (x21 : Int) (x22 : Int) (x23 : Int) (x24 : Int) (x25 : Int) (x26 : Int) (x27 : Int) (x28 : Int) (x29 : Int) (x30 : Int) (x31 : Int)]
  rw [word8_nat h0 h1 h2 h3 h4 h5 h6 h7, word8_nat h8 h9 h10 h11 h12 h13 h14 h15, word8_nat h16 h17 h18 h19 h20 h21 h22 h23, word8_nat h24 h25 h26 h27 h28 h29 h30 h31]
  have h := loadW_el (w0 := x0 * 1 + x1 * 256 + x2 * 65536 + x3 * 16777216 + x4 * 4294967296 + x5 * 1099511627776 + x6 * 281474976710656 + x7 * 72057594037927936) (w1 := x8 * 1 + x9 * 256 + x10 * 65536 + x11 * 16777216 + x12 * 4294967296 + x13 * 1099511627776 + x14 * 281474976710656 + x15 * 72057594037927936) (w2 := x16 * 1 + x17 * 256 + x18 * 65536 + x19 * 16777216 + x20 * 4294967296 + x21 * 1099511627776 + x22 * 281474976710656 + x23 * 72057594037927936) (w3 := x24 * 1 + x25 * 256 + x26 * 65536 + x27 * 16777216 + x28 * 4294967296 + x29 * 1099511627776 + x30 * 281474976710656 + x31 * 72057594037927936) (by omega) (by omega) (by omega) (by omega)
  refine Eq.mp (congrArg (fun n => El _ (n % p25519)) ?_) h
  simp only [valB]
  omega

theorem len32 {l : List Nat} (h : l.length = 32) : ∃ x0 x1 x2 x3 x4 x5 x6 x7 x8 x9 x10 x11 x12 x13 x14 x15 x16 x17 x18 x19 x20 x21 x22 x23 x24 x25 x26 x27 x28 x29 x30 x31, l = [x0, x1, x2, x3, x4, x5, x6, x7, x8, x9, x10, x11, x12, x13, x14, x15, x16, x17, x18, x19, x20, x21, x22, x23, x24, x25, x26, x27, x28, x29, x30, x31] := by
  match l, h with
  | [x0, x1, x2, x3, x4, x5, x6, x7, x8, x9, x10, x11, x12, x13, x14, x15, x16, x17, x18, x19, x20, x21, x22, x23, x24, x25, x26, x27, x28, x29, x30, x31], _ => exact ⟨x0, x1, x2, x3, x4, x5, x6, x7, x8, x9, x10, x11, x12, x13, x14, x15, x16, x17, x18, x19, x20, x21, x22, x23, x24, x25, x26, x27, x28, x29, x30, x31, rfl⟩

theorem load_el {l : List Nat} (hl : l.length = 32) (hb : ∀ x ∈ l, x < 256) : El (loadL (nats l)) (valB 256 l % p25519) := by
  obtain ⟨x0, x1, x2, x3, x4, x5, x6, x7, x8, x9, x10, x11, x12, x13, x14, x15, x16, x17, x18, x19, x20, x21, x22, x23, x24, x25, x26, x27, x28, x29, x30, x31, rfl⟩ := len32 hl
  simp only [List.mem_cons, List.not_mem_nil, or_false, forall_eq_or_imp, forall_eq] at hb
  obtain ⟨h0, h1, h2, h3, h4, h5, h6, h7, h8, h9, h10, h11, h12, h13, h14, h15, h16, h17, h18, h19, h20, h21, h22, h23, h24, h25, h26, h27, h28, h29, h30, h31⟩ := hb
  exact load32 h0 h1 h2 h3 h4 h5 h6 h7 h8 h9 h10 h11 h12 h13 h14 h15 h16 h17 h18 h19 h20 h21 h22 h23 h24 h25 h26 h27 h28 h29 h30 h31
end Go.Proofs.Ytcgolglcjfknpaa

/- Powers: what el.power comes to. -/
namespace Go.Proofs.Ytcgolglcjfknpaa
open Go Go.Eng
set_option maxRecDepth 100000

def powBits (x : List Int) (b : Int) : Nat → List Int → List Int
  | 0, r => r
  | j + 1, r => powBits x b j (bif andI .u8 (shrI .u8 b (j : Int)) 1 == 1 then timesL (timesL r r) x else timesL r r)
def powGo (x e : List Int) : Nat → List Int → List Int
  | 0, r => r
  | i + 1, r => powGo x e i (powBits x (e.getD i 0) 8 r)
def powL (x e : List Int) : List Int := powGo x e e.length [1, 0, 0, 0, 0]

theorem wrapI {a : Int} (h1 : -9223372036854775808 ≤ a) (h2 : a < 9223372036854775808) : IntKind.i64.wrap a = a := by
  simp [IntKind.wrap, IntKind.bits, IntKind.signed]; omega

theorem f72_in {R : Type} (N : Nat) (k1 : Bool → Int → Int → List Int → List Int → List Int → List Int → Option R) (e x z : List Int) (i : Nat) (hi : i < e.length) :
    ∀ j : Nat, j ≤ 8 → ∀ fuel, j < fuel → ∀ r, f72_2_lp N k1 fuel (i : Int) ((j : Int) - 1) e x z r = k1 false (i : Int) (-1) e x z (powBits x (e.getD i 0) j r) := by
  intro j
  induction j with
  | zero =>
    intro _ fuel hf r
    obtain ⟨f, rfl⟩ : ∃ f, fuel = f + 1 := ⟨fuel - 1, by omega⟩
    rfl
  | succ j ih =>
    intro hj fuel hf r
    obtain ⟨f, rfl⟩ : ∃ f, fuel = f + 1 := ⟨fuel - 1, by omega⟩
    rw [show ((j + 1 : Nat) : Int) - 1 = (j : Int) by omega]
    show f72_2_st N (f72_2_lp N k1 f) k1 _ _ _ _ _ _ = _
    unfold f72_2_st
    rw [show decide ((j : Int) ≥ 0) = true from decide_eq_true (by omega), show decide (0 ≤ (i : Int)) = true from decide_eq_true (by omega), show decide ((i : Int) < nI (rowLen 1 e)) = true from decide_eq_true (Int.ofNat_lt.mpr hi)]
    rw [cond_true, show (true && true) = true from rfl, cond_true, cond_true]
    dsimp only
    rw [wrapI (a := (j : Int) - 1) (by omega) (by omega), show e.getD (mulE (Int.toNat (i : Int)) 1) 0 = e.getD i 0 from rfl]
    unfold powBits
    cases (andI .u8 (shrI .u8 (e.getD i 0) (j : Int)) 1 == 1)
    · rw [cond_false, cond_false]; exact ih (by omega) f (by omega) _
    · rw [cond_true, cond_true]; exact ih (by omega) f (by omega) _

theorem f72_out {R : Type} (N : Nat) (hN : 8 < N) (k1 : Bool → Int → List Int → List Int → List Int → List Int → Option R) (e x z : List Int) (he : e.length < 9223372036854775808) :
    ∀ m : Nat, m ≤ e.length → ∀ fuel, m < fuel → ∀ r, f72_0_lp N k1 fuel ((m : Int) - 1) e x z r = k1 false (-1) e x z (powGo x e m r) := by
  intro m
  induction m with
  | zero =>
    intro _ fuel hf r
    obtain ⟨f, rfl⟩ : ∃ f, fuel = f + 1 := ⟨fuel - 1, by omega⟩
    rfl
  | succ m ih =>
    intro hm fuel hf r
    obtain ⟨f, rfl⟩ : ∃ f, fuel = f + 1 := ⟨fuel - 1, by omega⟩
    rw [show ((m + 1 : Nat) : Int) - 1 = (m : Int) by omega]
    show f72_0_st N (f72_0_lp N k1 f) k1 _ _ _ _ _ = _
    unfold f72_0_st
    rw [show decide ((m : Int) ≥ 0) = true from decide_eq_true (by omega), cond_true]
    rw [show (7 : Int) = ((8 : Nat) : Int) - 1 from rfl, f72_in N _ e x z m (by omega) 8 (by decide) N hN]
    dsimp only
    rw [wrapI (a := (m : Int) - 1) (by omega) (by omega)]
    exact ih (by omega) f (by omega) _

theorem f72_spec {R : Type} (N : Nat) (x e : List Int) (hN : e.length + 8 < N) (he : e.length < 9223372036854775808) (k : List DV → Option R) : f72_raw N x e k = k [.v (.one (.ints .u64 5 (powL x e)))] := by
  unfold f72_raw
  dsimp only
  rw [show nI (rowLen 1 e) = (e.length : Int) from rfl, wrapI (a := (e.length : Int) - 1) (by omega) (by omega)]
  rw [f72_out N (by omega) _ e x _ he e.length (Nat.le_refl _) N (by omega)]
  rfl

def I72 : (R : Type) → List DV → (List DV → Option R) → Option R := fun _ ds k => match ds with
  | [.v (.one (.ints .u64 5 x)), .lst .u8 1 e] => bif decide (e.length < 9223372036854775808) then k [.v (.one (.ints .u64 5 (powL x e)))] else none
  | _ => none
theorem c72 : Contract Try.prog 72 { sig := S72, impl := I72 } := by
  refine Contract.refine fun R ds k r h => ?_
  unfold I72 at h
  split at h
  · rename_i x e
    rcases hc : decide (e.length < 9223372036854775808) with _ | _
    · rw [hc] at h; cases h
    · rw [hc, cond_true] at h
      refine ⟨_, f72_contract (e.length + 9) GA_ok, ?_⟩
      rw [f72_raw_eq, f72_spec _ x e (by omega) (of_decide_eq_true hc)]
      exact h
  · cases h

/-! ### as numbers -/

theorem one_el : El [1, 0, 0, 0, 0] 1 := ⟨1, 0, 0, 0, 0, rfl, ⟨by decide, by decide, by decide, by decide, by decide⟩, by decide⟩

theorem bit8 {b : Nat} (hb : b < 256) (j : Nat) (hj : j ≤ 8) : andI .u8 (shrI .u8 (b : Int) (j : Int)) 1 = ((b / 2 ^ j % 2 : Nat) : Int) := by
  rw [shrN (k := .u8) hj]
  exact maskN (k := .u8) (j := 1) rfl (Nat.lt_of_le_of_lt (Nat.div_le_self _ _) hb) (by decide)

theorem powBits_el {x : List Int} {v : Nat} (hx : El x v) {b : Nat} (hb : b < 256) : ∀ (j : Nat), j ≤ 8 → ∀ {r : List Int} {w c : Nat}, El r (v ^ c % p25519) → w = c * 2 ^ j + b % 2 ^ j → El (powBits x (b : Int) j r) (v ^ w % p25519) := by
  intro j
  induction j with
  | zero => intro _ r w c hr hw; rw [Nat.pow_zero, Nat.mod_one] at hw; unfold powBits; rw [hw]; simpa using hr
  | succ j ih =>
    intro hj r w c hr hw
    unfold powBits
    rw [bit8 hb j (by omega)]
    have h2 := times_el hr hr
    rw [← Nat.mul_mod, ← Nat.pow_add] at h2
    have hb2 : b % 2 ^ (j + 1) = b / 2 ^ j % 2 * 2 ^ j + b % 2 ^ j := by
      rw [Nat.pow_succ, Nat.mod_mul, Nat.mul_comm, Nat.add_comm, Nat.mul_comm]
    rcases hc : (((b / 2 ^ j % 2 : Nat) : Int) == 1) with _ | _
    · rw [cond_false]
      refine ih (by omega) h2 ?_
      have h0 : b / 2 ^ j % 2 = 0 := by
        have : ¬ b / 2 ^ j % 2 = 1 := fun h => by rw [h] at hc; exact absurd hc (by decide)
        omega
      rw [hw, hb2, h0, Nat.pow_succ, Nat.mul_comm (2 ^ j) 2, ← Nat.mul_assoc, Nat.zero_mul, Nat.zero_add, Nat.mul_two]
    · rw [cond_true]
      have h1 : b / 2 ^ j % 2 = 1 := by rw [beq_iff_eq] at hc; omega
      have h3 := times_el h2 hx
      rw [Nat.mod_mul_mod, ← Nat.pow_succ] at h3
      refine ih (by omega) h3 ?_
      rw [hw, hb2, h1, Nat.pow_succ, Nat.mul_comm (2 ^ j) 2, ← Nat.mul_assoc, Nat.mul_two, Nat.one_mul, Nat.succ_mul]
      omega

theorem powGo_el {x : List Int} {v : Nat} (hx : El x v) {l : List Nat} (hl : ∀ b ∈ l, b < 256) : ∀ (m : Nat), m ≤ l.length → ∀ {r : List Int} {w c : Nat}, El r (v ^ c % p25519) → w = c * 256 ^ m + valB 256 (l.take m) → El (powGo x (nats l) m r) (v ^ w % p25519) := by
  intro m
  induction m with
  | zero => intro _ r w c hr hw; unfold powGo; rw [hw]; simpa [valB] using hr
  | succ m ih =>
    intro hm r w c hr hw
    unfold powGo
    rw [nats_getD]
    have hb : l.getD m 0 < 256 := by
      rw [List.getD_eq_getElem?_getD, List.getElem?_eq_getElem hm]; exact hl _ (List.getElem_mem hm)
    have h1 := powBits_el hx hb 8 (by decide) hr (w := c * 256 + l.getD m 0) (by rw [show (2 : Nat) ^ 8 = 256 from rfl, Nat.mod_eq_of_lt hb])
    refine ih (by omega) h1 ?_
    rw [hw, List.take_add_one, List.getElem?_eq_getElem hm, Option.toList_some, valB_append, List.length_take, Nat.min_eq_left (by omega)]
    rw [List.getD_eq_getElem?_getD, List.getElem?_eq_getElem hm, Option.getD_some]
    simp only [valB, Nat.mul_zero, Nat.add_zero, Nat.pow_succ, Nat.add_mul]
    rw [Nat.mul_comm (256 ^ m) 256, ← Nat.mul_assoc, Nat.mul_comm (256 ^ m)]
    omega

theorem pow_el {x : List Int} {v : Nat} (hx : El x v) {l : List Nat} (hl : ∀ b ∈ l, b < 256) : El (powL x (nats l)) (v ^ valB 256 l % p25519) := by
  unfold powL
  rw [nats_length]
  refine powGo_el hx hl l.length (Nat.le_refl _) (c := 0) (by rw [Nat.pow_zero]; exact one_el) ?_
  rw [Nat.zero_mul, Nat.zero_add, List.take_length]
end Go.Proofs.Ytcgolglcjfknpaa

/- The contexts for field's exported functions; elements as numbers. -/
namespace Go.Proofs.Ytcgolglcjfknpaa
open Go Go.Eng
set_option maxRecDepth 100000

noncomputable def GC : Ctx := [(67, { sig := S67, impl := I67 }), (73, { sig := S73, impl := I73 }), (74, { sig := S74, impl := I74 }), (94, { sig := S94, impl := I94 }), (97, { sig := S97, impl := I97 }), (66, { sig := S66, impl := I66 }), (70, { sig := S70, impl := I70 }), (72, { sig := S72, impl := I72 })]
theorem GC_ok : CtxOk Try.prog GC := ctxOk_cons ok67 rfl c67 (ctxOk_cons ok73 rfl c73 (ctxOk_cons ok74 rfl c74 (ctxOk_cons ok94 rfl c94 (ctxOk_cons ok97 rfl c97 (ctxOk_cons ok66 rfl c66 (ctxOk_cons ok70 rfl c70 (ctxOk_cons ok72 rfl c72 ctxOk_nil)))))))

/-- a thing that no reckoning looks into -/
noncomputable def stk {α : Type} (a : α) : { b : α // b = a } := Classical.choice ⟨⟨a, rfl⟩⟩
/-- a list that is an element's bytes -/
def okB (x : List Int) : Bool := decide (x.length = 32) && x.all (fun b => decide (0 ≤ b) && decide (b < 256))
/-- the number of some bytes -/
def numB (x : List Int) : Nat := valB 256 (x.map Int.toNat)
/-- the bytes of a number -/
noncomputable def feN : Nat → List Int := (stk fun v => nats (digs 256 32 v)).1
theorem feN_def (v : Nat) : feN v = nats (digs 256 32 v) := congrFun (stk fun v => nats (digs 256 32 v)).2 v

theorem nats_toNat (l : List Nat) : (nats l).map Int.toNat = l := by
  unfold nats; rw [List.map_map]; conv => rhs; rw [← List.map_id l]
  rfl
theorem okB_nats {l : List Nat} (hl : l.length = 32) (h : ∀ b ∈ l, b < 256) : okB (nats l) = true := by
  unfold okB
  rw [nats_length, decide_eq_true hl, Bool.true_and, List.all_eq_true]
  intro b hb
  unfold nats at hb
  obtain ⟨n, hn, rfl⟩ := List.mem_map.mp hb
  have := h n hn
  rw [Bool.and_eq_true]
  exact ⟨decide_eq_true (Int.natCast_nonneg n), decide_eq_true (Int.ofNat_lt.mpr this)⟩
theorem okB_feN (v : Nat) : okB (feN v) = true := by
  rw [feN_def]; exact okB_nats (digs_length _ _ _) (digs_lt (by decide))
theorem numB_nats (l : List Nat) : numB (nats l) = valB 256 l := by unfold numB; rw [nats_toNat]
theorem numB_feN (v : Nat) : numB (feN v) = v % 2 ^ 256 := by
  rw [feN_def, numB_nats, digs_val]
theorem numB_lt {v : Nat} (h : v < 2 ^ 256) : numB (feN v) = v := by rw [numB_feN, Nat.mod_eq_of_lt h]
theorem numB_mod (n : Nat) : numB (feN (n % p25519)) = n % p25519 :=
  numB_lt (Nat.lt_of_lt_of_le (Nat.mod_lt _ (by decide)) (by decide))
/-- what okB says -/
theorem okB_of {x : List Int} (h : okB x = true) : ∃ l : List Nat, x = nats l ∧ l.length = 32 ∧ ∀ b ∈ l, b < 256 := by
  unfold okB at h
  rw [Bool.and_eq_true, List.all_eq_true] at h
  obtain ⟨h1, h2⟩ := h
  have h3 : ∀ b ∈ x, 0 ≤ b ∧ b < 256 := fun b hb => by
    have := h2 b hb
    rw [Bool.and_eq_true] at this
    exact ⟨of_decide_eq_true this.1, of_decide_eq_true this.2⟩
  obtain ⟨l, rfl⟩ := nats_of (xs := x) fun b hb => (h3 b hb).1
  refine ⟨l, rfl, by rw [← nats_length]; exact of_decide_eq_true h1, fun b hb => ?_⟩
  exact Int.ofNat_lt.mp (h3 b (List.mem_map.mpr ⟨b, hb, rfl⟩)).2
theorem load_num {x : List Int} (h : okB x = true) : El (loadL x) (numB x % p25519) := by
  obtain ⟨l, rfl, h1, h2⟩ := okB_of h
  rw [numB_nats]; exact load_el h1 h2
theorem fe_num {x : List Int} {v : Nat} (h : El x v) : feL x = feN v := (fe_el h).trans (feN_def v).symm
theorem numB_bound {x : List Int} (h : okB x = true) : numB x < 2 ^ 256 := by
  obtain ⟨l, rfl, h1, h2⟩ := okB_of h
  rw [numB_nats]
  have := valB_lt (b := 256) (by decide) h2
  rw [h1] at this
  exact this
theorem feN_inj {a b : Nat} (ha : a < 2 ^ 256) (hb : b < 2 ^ 256) : feN a = feN b ↔ a = b := by
  constructor
  · intro h; rw [← numB_lt ha, ← numB_lt hb, h]
  · intro h; rw [h]
theorem feN_numB {x : List Int} (h : okB x = true) : feN (numB x) = x := by
  obtain ⟨l, rfl, h1, h2⟩ := okB_of h
  rw [numB_nats, feN_def]
  rw [← h1, digs_of (by decide) h2]
end Go.Proofs.Ytcgolglcjfknpaa

/- What (rime/field.el).inverse comes to. MADE BY PROGRAM (wip/tools/mkfn.py, EngGen.lean). -/
namespace Go.Proofs.Ytcgolglcjfknpaa
open Go Go.Eng
set_option maxRecDepth 100000
set_option linter.unusedVariables false

noncomputable def f75_raw {R : Type} (N : Nat) (x : List Int) (k : List DV → Option R) : Option R :=
 k [DV.v (SV.one (At.ints IntKind.u64 5 (powL x (nats (digs 256 32 57896044618658097711785492504343953926634992332820282019728792003956564819947)))))]


noncomputable def E75 (N : Nat) : Env := { Θ := Th, Γ := GC, K := K75, ν := N75, fuel := 60, lp := [] }


theorem f75_contract (N : Nat) (hΓ : CtxOk Try.prog GC) : Contract Try.prog 75 { sig := S75, impl := fun _ ds k => call (E75 N) S75 6 B75 R75 ds k } :=
  call_contract (E := E75 N) thOk hΓ mixed ok75.look ok75.body ok75.n ok75.rv ok75.name rfl (by decide) (loopsOk_of (l := []) (by kernel_rfl) trivial)
theorem f75_raw_eq {R : Type} (N : Nat) (x : List Int) (k : List DV → Option R) : call (E75 N) S75 6 B75 R75 [.v (.one (.ints .u64 5 x))] k = f75_raw N x k := by kernel_rfl
end Go.Proofs.Ytcgolglcjfknpaa

/- The inverse's contract; the context for the exported functions. -/
namespace Go.Proofs.Ytcgolglcjfknpaa
open Go Go.Eng
set_option maxRecDepth 100000
/-- p - 2 -/
def pm2 : Nat := 57896044618658097711785492504343953926634992332820282019728792003956564819947
def inverseL (x : List Int) : List Int := powL x (nats (digs 256 32 57896044618658097711785492504343953926634992332820282019728792003956564819947))
def I75 : (R : Type) → List DV → (List DV → Option R) → Option R := fun _ ds k => match ds with
  | [.v (.one (.ints .u64 5 x))] => k [.v (.one (.ints .u64 5 (inverseL x)))]
  | _ => none
theorem c75 : Contract Try.prog 75 { sig := S75, impl := I75 } := by
  refine Contract.refine fun R ds k r h => ⟨_, f75_contract 0 GC_ok, ?_⟩
  unfold I75 at h
  split at h
  · rw [f75_raw_eq]; exact h
  · cases h
theorem digs_lit {v : Nat} (h : v < 115792089237316195423570985008687907853269984665640564039457584007913129639936) : valB 256 (digs 256 32 v) = v := by rw [digs_val]; exact Nat.mod_eq_of_lt h
/-- the power mod p, as something that no reckoning looks into -/
noncomputable def pw : Nat → Nat → Nat := (stk fun v e => v ^ e % p25519).1
theorem pw_eq (v e : Nat) : pw v e = v ^ e % p25519 := congrFun (congrFun (stk fun v e : Nat => v ^ e % p25519).2 v) e
theorem pw_pm (v e : Nat) : pw v e = pm p25519 (e.log2 + 1) v e := (pw_eq v e).trans (pm_eq _ _ _ _ Nat.lt_log2_self).symm
theorem pw_lt (v e : Nat) : pw v e < p25519 := by rw [pw_eq]; exact Nat.mod_lt _ (by decide)
theorem pow_lit {x : List Int} {v e : Nat} (hx : El x v) (he : e < 115792089237316195423570985008687907853269984665640564039457584007913129639936) : El (powL x (nats (digs 256 32 e))) (pw v e) := by
  have := pow_el hx (l := digs 256 32 e) (digs_lt (by decide))
  rwa [digs_lit he, ← pw_eq] at this
theorem inverse_el {x : List Int} {v : Nat} (hx : El x v) : El (inverseL x) (pw v pm2) := pow_lit hx (by decide)
noncomputable def GD : Ctx := [(67, { sig := S67, impl := I67 }), (73, { sig := S73, impl := I73 }), (74, { sig := S74, impl := I74 }), (94, { sig := S94, impl := I94 }), (97, { sig := S97, impl := I97 }), (66, { sig := S66, impl := I66 }), (70, { sig := S70, impl := I70 }), (72, { sig := S72, impl := I72 }), (75, { sig := S75, impl := I75 })]
theorem GD_ok : CtxOk Try.prog GD := ctxOk_cons ok67 rfl c67 (ctxOk_cons ok73 rfl c73 (ctxOk_cons ok74 rfl c74 (ctxOk_cons ok94 rfl c94 (ctxOk_cons ok97 rfl c97 (ctxOk_cons ok66 rfl c66 (ctxOk_cons ok70 rfl c70 (ctxOk_cons ok72 rfl c72 (ctxOk_cons ok75 rfl c75 ctxOk_nil))))))))
end Go.Proofs.Ytcgolglcjfknpaa

/- What rime/field.Split comes to. MADE BY PROGRAM (wip/tools/mkfn.py, EngGen.lean). -/
namespace Go.Proofs.Ytcgolglcjfknpaa
open Go Go.Eng
set_option maxRecDepth 100000
set_option linter.unusedVariables false

noncomputable def f13_raw {R : Type} (N : Nat) (x : List Int) (k : List DV → Option R) : Option R :=
 k [DV.v (SV.one (At.ints IntKind.u64 5 (leastL (loadL x))))]


noncomputable def E13 (N : Nat) : Env := { Θ := Th, Γ := GD, K := K13, ν := N13, fuel := 60, lp := [] }


theorem f13_contract (N : Nat) (hΓ : CtxOk Try.prog GD) : Contract Try.prog 13 { sig := S13, impl := fun _ ds k => call (E13 N) S13 6 B13 R13 ds k } :=
  call_contract (E := E13 N) thOk hΓ mixed ok13.look ok13.body ok13.n ok13.rv ok13.name rfl (by decide) (loopsOk_of (l := []) (by kernel_rfl) trivial)
theorem f13_raw_eq {R : Type} (N : Nat) (x : List Int) (k : List DV → Option R) : call (E13 N) S13 6 B13 R13 [.v (.one (.ints .u8 32 x))] k = f13_raw N x k := by kernel_rfl
end Go.Proofs.Ytcgolglcjfknpaa

/- What rime/field.Join comes to. MADE BY PROGRAM (wip/tools/mkfn.py, EngGen.lean). -/
namespace Go.Proofs.Ytcgolglcjfknpaa
open Go Go.Eng
set_option maxRecDepth 100000
set_option linter.unusedVariables false

noncomputable def f15_raw {R : Type} (N : Nat) (x : List Int) (k : List DV → Option R) : Option R :=
 let v0 : Int := andI IntKind.u64 (x.getD (Int.toNat 0) 0) 2251799813685247;
let v1 : Int := IntKind.u64.wrap ((List.replicate 5 0).getD (mulE (Int.toNat 0) 1) 0 + v0);
let v2 : List Int := (List.replicate 5 0).set (mulE (Int.toNat 0) 1) v1;
let v3 : Int := IntKind.i64.wrap (0 + 1);
let v4 : Int := shrI IntKind.u64 (x.getD (Int.toNat 0) 0) 51;
let v5 : Int := IntKind.u64.wrap (v2.getD (mulE v3.toNat 1) 0 + v4);
let v6 : List Int := v2.set (mulE v3.toNat 1) v5;
let v7 : Int := andI IntKind.u64 (x.getD v3.toNat 0) 2251799813685247;
let v8 : Int := IntKind.u64.wrap (v6.getD (mulE v3.toNat 1) 0 + v7);
let v9 : List Int := v6.set (mulE v3.toNat 1) v8;
let v10 : Int := IntKind.i64.wrap (v3 + 1);
let v11 : Int := shrI IntKind.u64 (x.getD v3.toNat 0) 51;
let v12 : Int := IntKind.u64.wrap (v9.getD (mulE v10.toNat 1) 0 + v11);
let v13 : List Int := v9.set (mulE v10.toNat 1) v12;
let v14 : Int := andI IntKind.u64 (x.getD v10.toNat 0) 2251799813685247;
let v15 : Int := IntKind.u64.wrap (v13.getD (mulE v10.toNat 1) 0 + v14);
let v16 : List Int := v13.set (mulE v10.toNat 1) v15;
let v17 : Int := IntKind.i64.wrap (v10 + 1);
let v18 : Int := shrI IntKind.u64 (x.getD v10.toNat 0) 51;
let v19 : Int := IntKind.u64.wrap (v16.getD (mulE v17.toNat 1) 0 + v18);
let v20 : List Int := v16.set (mulE v17.toNat 1) v19;
let v21 : Int := andI IntKind.u64 (x.getD v17.toNat 0) 2251799813685247;
let v22 : Int := IntKind.u64.wrap (v20.getD (mulE v17.toNat 1) 0 + v21);
let v23 : List Int := v20.set (mulE v17.toNat 1) v22;
let v24 : Int := IntKind.i64.wrap (v17 + 1);
let v25 : Int := shrI IntKind.u64 (x.getD v17.toNat 0) 51;
let v26 : Int := IntKind.u64.wrap (v23.getD (mulE v24.toNat 1) 0 + v25);
let v27 : List Int := v23.set (mulE v24.toNat 1) v26;
let v28 : Int := andI IntKind.u64 (x.getD v24.toNat 0) 2251799813685247;
let v29 : Int := IntKind.u64.wrap (v27.getD (mulE v24.toNat 1) 0 + v28);
let v30 : List Int := v27.set (mulE v24.toNat 1) v29;
let v31 : Int := shrI IntKind.u64 (x.getD v24.toNat 0) 51;
let v32 : Int := IntKind.u64.wrap (19 * v31);
let v33 : Int := IntKind.u64.wrap (v30.getD (mulE (Int.toNat 0) 1) 0 + v32);
let v34 : List Int := v30.set (mulE (Int.toNat 0) 1) v33;
k [DV.v (SV.one (At.ints IntKind.u8 32 (feL v34)))]


noncomputable def E15 (N : Nat) : Env := { Θ := Th, Γ := GD, K := K15, ν := N15, fuel := 60, lp := [] }


theorem f15_contract (N : Nat) (hΓ : CtxOk Try.prog GD) : Contract Try.prog 15 { sig := S15, impl := fun _ ds k => call (E15 N) S15 40 B15 R15 ds k } :=
  call_contract (E := E15 N) thOk hΓ mixed ok15.look ok15.body ok15.n ok15.rv ok15.name rfl (by decide) (loopsOk_of (l := [(0, B15_0)]) (by kernel_rfl) (allOk_skip rfl trivial))
theorem f15_raw_eq {R : Type} (N : Nat) (x : List Int) (k : List DV → Option R) : call (E15 N) S15 40 B15 R15 [.v (.one (.ints .u64 5 x))] k = f15_raw N x k := by kernel_rfl
end Go.Proofs.Ytcgolglcjfknpaa

/- What rime/field.Power comes to. MADE BY PROGRAM (wip/tools/mkfn.py, EngGen.lean). -/
namespace Go.Proofs.Ytcgolglcjfknpaa
open Go Go.Eng
set_option maxRecDepth 100000
set_option linter.unusedVariables false

noncomputable def f18_raw {R : Type} (N : Nat) (x : List Int) (e : List Int) (k : List DV → Option R) : Option R :=
 bif Decidable.decide (e.length < 9223372036854775808) then k [DV.v (SV.one (At.ints IntKind.u8 32 (feL (powL (loadL x) e))))] else Option.none


noncomputable def E18 (N : Nat) : Env := { Θ := Th, Γ := GD, K := K18, ν := N18, fuel := 60, lp := [] }


theorem f18_contract (N : Nat) (hΓ : CtxOk Try.prog GD) : Contract Try.prog 18 { sig := S18, impl := fun _ ds k => call (E18 N) S18 10 B18 R18 ds k } :=
  call_contract (E := E18 N) thOk hΓ mixed ok18.look ok18.body ok18.n ok18.rv ok18.name rfl (by decide) (loopsOk_of (l := []) (by kernel_rfl) trivial)
theorem f18_raw_eq {R : Type} (N : Nat) (x : List Int) (e : List Int) (k : List DV → Option R) : call (E18 N) S18 10 B18 R18 [.v (.one (.ints .u8 32 x)), .lst .u8 1 e] k = f18_raw N x e k := by kernel_rfl
end Go.Proofs.Ytcgolglcjfknpaa

/- What rime/field.Legendre comes to. MADE BY PROGRAM (wip/tools/mkfn.py, EngGen.lean). -/
namespace Go.Proofs.Ytcgolglcjfknpaa
open Go Go.Eng
set_option maxRecDepth 100000
set_option linter.unusedVariables false

noncomputable def f21_raw {R : Type} (N : Nat) (x : List Int) (k : List DV → Option R) : Option R :=
 bif Decidable.decide (feL (powL (loadL x) (nats (digs 256 32 28948022309329048855892746252171976963317496166410141009864396001978282409974))) = List.replicate 32 0) then k [DV.v (SV.one (At.int IntKind.i64 0))]
else
 let v0 : List Int := (List.replicate 32 0).set 0 1;
 bif Decidable.decide (feL (powL (loadL x) (nats (digs 256 32 28948022309329048855892746252171976963317496166410141009864396001978282409974))) = v0) then k [DV.v (SV.one (At.int IntKind.i64 1))] else k [DV.v (SV.one (At.int IntKind.i64 (-1)))]


noncomputable def E21 (N : Nat) : Env := { Θ := Th, Γ := GD, K := K21, ν := N21, fuel := 60, lp := [] }


theorem f21_contract (N : Nat) (hΓ : CtxOk Try.prog GD) : Contract Try.prog 21 { sig := S21, impl := fun _ ds k => call (E21 N) S21 14 B21 R21 ds k } :=
  call_contract (E := E21 N) thOk hΓ mixed ok21.look ok21.body ok21.n ok21.rv ok21.name rfl (by decide) (loopsOk_of (l := []) (by kernel_rfl) trivial)
theorem f21_raw_eq {R : Type} (N : Nat) (x : List Int) (k : List DV → Option R) : call (E21 N) S21 14 B21 R21 [.v (.one (.ints .u8 32 x))] k = f21_raw N x k := by kernel_rfl
end Go.Proofs.Ytcgolglcjfknpaa

/- What rime/field.Equal comes to. MADE BY PROGRAM (wip/tools/mkfn.py, EngGen.lean). -/
namespace Go.Proofs.Ytcgolglcjfknpaa
open Go Go.Eng
set_option maxRecDepth 100000
set_option linter.unusedVariables false

noncomputable def f23_raw {R : Type} (N : Nat) (x : List Int) (y : List Int) (k : List DV → Option R) : Option R :=
 k [DV.v (SV.one (At.bool (Decidable.decide (feL (loadL x) = feL (loadL y)))))]


noncomputable def E23 (N : Nat) : Env := { Θ := Th, Γ := GD, K := K23, ν := N23, fuel := 60, lp := [] }


theorem f23_contract (N : Nat) (hΓ : CtxOk Try.prog GD) : Contract Try.prog 23 { sig := S23, impl := fun _ ds k => call (E23 N) S23 12 B23 R23 ds k } :=
  call_contract (E := E23 N) thOk hΓ mixed ok23.look ok23.body ok23.n ok23.rv ok23.name rfl (by decide) (loopsOk_of (l := []) (by kernel_rfl) trivial)
theorem f23_raw_eq {R : Type} (N : Nat) (x : List Int) (y : List Int) (k : List DV → Option R) : call (E23 N) S23 12 B23 R23 [.v (.one (.ints .u8 32 x)), .v (.one (.ints .u8 32 y))] k = f23_raw N x y k := by kernel_rfl
end Go.Proofs.Ytcgolglcjfknpaa

/- What rime/field.Mul comes to. MADE BY PROGRAM (wip/tools/mkfn.py, EngGen.lean). -/
namespace Go.Proofs.Ytcgolglcjfknpaa
open Go Go.Eng
set_option maxRecDepth 100000
set_option linter.unusedVariables false

noncomputable def f24_raw {R : Type} (N : Nat) (x : List Int) (y : List Int) (k : List DV → Option R) : Option R :=
 k [DV.v (SV.one (At.ints IntKind.u8 32 (feL (timesL (loadL x) (loadL y)))))]


noncomputable def E24 (N : Nat) : Env := { Θ := Th, Γ := GD, K := K24, ν := N24, fuel := 60, lp := [] }


theorem f24_contract (N : Nat) (hΓ : CtxOk Try.prog GD) : Contract Try.prog 24 { sig := S24, impl := fun _ ds k => call (E24 N) S24 11 B24 R24 ds k } :=
  call_contract (E := E24 N) thOk hΓ mixed ok24.look ok24.body ok24.n ok24.rv ok24.name rfl (by decide) (loopsOk_of (l := []) (by kernel_rfl) trivial)
theorem f24_raw_eq {R : Type} (N : Nat) (x : List Int) (y : List Int) (k : List DV → Option R) : call (E24 N) S24 11 B24 R24 [.v (.one (.ints .u8 32 x)), .v (.one (.ints .u8 32 y))] k = f24_raw N x y k := by kernel_rfl
end Go.Proofs.Ytcgolglcjfknpaa

/- What rime/field.Invert comes to. MADE BY PROGRAM (wip/tools/mkfn.py, EngGen.lean). -/
namespace Go.Proofs.Ytcgolglcjfknpaa
open Go Go.Eng
set_option maxRecDepth 100000
set_option linter.unusedVariables false

noncomputable def f25_raw {R : Type} (N : Nat) (x : List Int) (k : List DV → Option R) : Option R :=
 k [DV.v (SV.one (At.ints IntKind.u8 32 (feL (inverseL (loadL x)))))]


noncomputable def E25 (N : Nat) : Env := { Θ := Th, Γ := GD, K := K25, ν := N25, fuel := 60, lp := [] }


theorem f25_contract (N : Nat) (hΓ : CtxOk Try.prog GD) : Contract Try.prog 25 { sig := S25, impl := fun _ ds k => call (E25 N) S25 7 B25 R25 ds k } :=
  call_contract (E := E25 N) thOk hΓ mixed ok25.look ok25.body ok25.n ok25.rv ok25.name rfl (by decide) (loopsOk_of (l := []) (by kernel_rfl) trivial)
theorem f25_raw_eq {R : Type} (N : Nat) (x : List Int) (k : List DV → Option R) : call (E25 N) S25 7 B25 R25 [.v (.one (.ints .u8 32 x))] k = f25_raw N x k := by kernel_rfl
end Go.Proofs.Ytcgolglcjfknpaa

/- What rime/field.IsNegative comes to. MADE BY PROGRAM (wip/tools/mkfn.py, EngGen.lean). -/
namespace Go.Proofs.Ytcgolglcjfknpaa
open Go Go.Eng
set_option maxRecDepth 100000
set_option linter.unusedVariables false

noncomputable def f30_raw {R : Type} (N : Nat) (x : List Int) (k : List DV → Option R) : Option R :=
 let v0 : Int := andI IntKind.u8 ((feL (loadL x)).getD (Int.toNat 0) 0) 1;
k [DV.v (SV.one (At.bool (v0 == 1)))]


noncomputable def E30 (N : Nat) : Env := { Θ := Th, Γ := GD, K := K30, ν := N30, fuel := 60, lp := [] }


theorem f30_contract (N : Nat) (hΓ : CtxOk Try.prog GD) : Contract Try.prog 30 { sig := S30, impl := fun _ ds k => call (E30 N) S30 9 B30 R30 ds k } :=
  call_contract (E := E30 N) thOk hΓ mixed ok30.look ok30.body ok30.n ok30.rv ok30.name rfl (by decide) (loopsOk_of (l := []) (by kernel_rfl) trivial)
theorem f30_raw_eq {R : Type} (N : Nat) (x : List Int) (k : List DV → Option R) : call (E30 N) S30 9 B30 R30 [.v (.one (.ints .u8 32 x))] k = f30_raw N x k := by kernel_rfl
end Go.Proofs.Ytcgolglcjfknpaa

/- What rime/field.Canonical comes to. MADE BY PROGRAM (wip/tools/mkfn.py, EngGen.lean). -/
namespace Go.Proofs.Ytcgolglcjfknpaa
open Go Go.Eng
set_option maxRecDepth 100000
set_option linter.unusedVariables false

noncomputable def f41_raw {R : Type} (N : Nat) (x : List Int) (k : List DV → Option R) : Option R :=
 k [DV.v (SV.one (At.bool (Decidable.decide (feL (loadL x) = x))))]


noncomputable def E41 (N : Nat) : Env := { Θ := Th, Γ := GD, K := K41, ν := N41, fuel := 60, lp := [] }


theorem f41_contract (N : Nat) (hΓ : CtxOk Try.prog GD) : Contract Try.prog 41 { sig := S41, impl := fun _ ds k => call (E41 N) S41 8 B41 R41 ds k } :=
  call_contract (E := E41 N) thOk hΓ mixed ok41.look ok41.body ok41.n ok41.rv ok41.name rfl (by decide) (loopsOk_of (l := []) (by kernel_rfl) trivial)
theorem f41_raw_eq {R : Type} (N : Nat) (x : List Int) (k : List DV → Option R) : call (E41 N) S41 8 B41 R41 [.v (.one (.ints .u8 32 x))] k = f41_raw N x k := by kernel_rfl
end Go.Proofs.Ytcgolglcjfknpaa

/- What rime/field.Add comes to. MADE BY PROGRAM (wip/tools/mkfn.py, EngGen.lean). -/
namespace Go.Proofs.Ytcgolglcjfknpaa
open Go Go.Eng
set_option maxRecDepth 100000
set_option linter.unusedVariables false

noncomputable def f43_raw {R : Type} (N : Nat) (x : List Int) (y : List Int) (k : List DV → Option R) : Option R :=
 k [DV.v (SV.one (At.ints IntKind.u8 32 (feL (plusL (loadL x) (loadL y)))))]


noncomputable def E43 (N : Nat) : Env := { Θ := Th, Γ := GD, K := K43, ν := N43, fuel := 60, lp := [] }


theorem f43_contract (N : Nat) (hΓ : CtxOk Try.prog GD) : Contract Try.prog 43 { sig := S43, impl := fun _ ds k => call (E43 N) S43 11 B43 R43 ds k } :=
  call_contract (E := E43 N) thOk hΓ mixed ok43.look ok43.body ok43.n ok43.rv ok43.name rfl (by decide) (loopsOk_of (l := []) (by kernel_rfl) trivial)
theorem f43_raw_eq {R : Type} (N : Nat) (x : List Int) (y : List Int) (k : List DV → Option R) : call (E43 N) S43 11 B43 R43 [.v (.one (.ints .u8 32 x)), .v (.one (.ints .u8 32 y))] k = f43_raw N x y k := by kernel_rfl
end Go.Proofs.Ytcgolglcjfknpaa

/- What rime/field.Sub comes to. MADE BY PROGRAM (wip/tools/mkfn.py, EngGen.lean). -/
namespace Go.Proofs.Ytcgolglcjfknpaa
open Go Go.Eng
set_option maxRecDepth 100000
set_option linter.unusedVariables false

noncomputable def f45_raw {R : Type} (N : Nat) (x : List Int) (y : List Int) (k : List DV → Option R) : Option R :=
 k [DV.v (SV.one (At.ints IntKind.u8 32 (feL (minusL (loadL x) (loadL y)))))]


noncomputable def E45 (N : Nat) : Env := { Θ := Th, Γ := GD, K := K45, ν := N45, fuel := 60, lp := [] }


theorem f45_contract (N : Nat) (hΓ : CtxOk Try.prog GD) : Contract Try.prog 45 { sig := S45, impl := fun _ ds k => call (E45 N) S45 11 B45 R45 ds k } :=
  call_contract (E := E45 N) thOk hΓ mixed ok45.look ok45.body ok45.n ok45.rv ok45.name rfl (by decide) (loopsOk_of (l := []) (by kernel_rfl) trivial)
theorem f45_raw_eq {R : Type} (N : Nat) (x : List Int) (y : List Int) (k : List DV → Option R) : call (E45 N) S45 11 B45 R45 [.v (.one (.ints .u8 32 x)), .v (.one (.ints .u8 32 y))] k = f45_raw N x y k := by kernel_rfl
end Go.Proofs.Ytcgolglcjfknpaa

/- What rime/field.Select comes to. MADE BY PROGRAM (wip/tools/mkfn.py, EngGen.lean). -/
namespace Go.Proofs.Ytcgolglcjfknpaa
open Go Go.Eng
set_option maxRecDepth 100000
set_option linter.unusedVariables false

noncomputable def f53_raw {R : Type} (N : Nat) (x : List Int) (y : List Int) (c : Bool) (k : List DV → Option R) : Option R :=
 bif c then k [DV.v (SV.one (At.ints IntKind.u8 32 (feL (loadL y))))] else k [DV.v (SV.one (At.ints IntKind.u8 32 (feL (loadL x))))]


noncomputable def E53 (N : Nat) : Env := { Θ := Th, Γ := GD, K := K53, ν := N53, fuel := 60, lp := [] }


theorem f53_contract (N : Nat) (hΓ : CtxOk Try.prog GD) : Contract Try.prog 53 { sig := S53, impl := fun _ ds k => call (E53 N) S53 12 B53 R53 ds k } :=
  call_contract (E := E53 N) thOk hΓ mixed ok53.look ok53.body ok53.n ok53.rv ok53.name rfl (by decide) (loopsOk_of (l := []) (by kernel_rfl) trivial)
theorem f53_raw_eq {R : Type} (N : Nat) (x : List Int) (y : List Int) (c : Bool) (k : List DV → Option R) : call (E53 N) S53 12 B53 R53 [.v (.one (.ints .u8 32 x)), .v (.one (.ints .u8 32 y)), .v (.one (.bool c))] k = f53_raw N x y c k := by kernel_rfl
end Go.Proofs.Ytcgolglcjfknpaa

/- field's exported functions, as numbers. -/
namespace Go.Proofs.Ytcgolglcjfknpaa
open Go Go.Eng
set_option maxRecDepth 100000

/-- the element that some bytes stand for -/
noncomputable def vB : List Int → Nat := (stk fun x => numB x % p25519).1
theorem vB_def (x : List Int) : vB x = numB x % p25519 := congrFun (stk fun x => numB x % p25519).2 x
theorem vB_lt (x : List Int) : vB x < p25519 := by rw [vB_def]; exact Nat.mod_lt _ (by decide)
theorem load_vB {x : List Int} (h : okB x = true) : El (loadL x) (vB x) := by rw [vB_def]; exact load_num h
theorem p_lt : p25519 < 2 ^ 256 := by decide
theorem vB_feN {v : Nat} (h : v < p25519) : vB (feN v) = v := by
  rw [vB_def, numB_lt (Nat.lt_trans h p_lt), Nat.mod_eq_of_lt h]
theorem feN_eq {a b : Nat} (ha : a < p25519) (hb : b < p25519) : feN a = feN b ↔ a = b := feN_inj (Nat.lt_trans ha p_lt) (Nat.lt_trans hb p_lt)

noncomputable def addN : Nat → Nat → Nat := (stk fun a b => (a + b) % p25519).1
theorem addN_def (a b : Nat) : addN a b = (a + b) % p25519 := congrFun (congrFun (stk fun a b : Nat => (a + b) % p25519).2 a) b
noncomputable def subN : Nat → Nat → Nat := (stk fun a b => (a + (p25519 - b)) % p25519).1
theorem subN_def (a b : Nat) : subN a b = (a + (p25519 - b)) % p25519 := congrFun (congrFun (stk fun a b : Nat => (a + (p25519 - b)) % p25519).2 a) b
noncomputable def mulN : Nat → Nat → Nat := (stk fun a b => a * b % p25519).1
theorem mulN_def (a b : Nat) : mulN a b = a * b % p25519 := congrFun (congrFun (stk fun a b : Nat => a * b % p25519).2 a) b
theorem plus_N {x y : List Int} {a b : Nat} (hx : El x a) (hy : El y b) : El (plusL x y) (addN a b) := by rw [addN_def]; exact plus_el hx hy
theorem minus_N {x y : List Int} {a b : Nat} (hx : El x a) (hy : El y b) : El (minusL x y) (subN a b) := by rw [subN_def]; exact minus_el hx hy
theorem times_N {x y : List Int} {a b : Nat} (hx : El x a) (hy : El y b) : El (timesL x y) (mulN a b) := by rw [mulN_def]; exact times_el hx hy
theorem addN_lt (a b : Nat) : addN a b < p25519 := by rw [addN_def]; exact Nat.mod_lt _ (by decide)
theorem subN_lt (a b : Nat) : subN a b < p25519 := by rw [subN_def]; exact Nat.mod_lt _ (by decide)
theorem mulN_lt (a b : Nat) : mulN a b < p25519 := by rw [mulN_def]; exact Nat.mod_lt _ (by decide)
/-- (p - 1) / 2 -/
def ph : Nat := 28948022309329048855892746252171976963317496166410141009864396001978282409974
/-- Legendre's symbol, reckoned -/
noncomputable def legR (v : Nat) : Int := bif decide (pw v ph = 0) then 0 else bif decide (pw v ph = 1) then 1 else -1
noncomputable def legI : Nat → Int := (stk legR).1
theorem legI_def (v : Nat) : legI v = legR v := congrFun (stk legR).2 v
/-- bytes, any number of them -/
def okE (e : List Int) : Bool := decide (e.length < 9223372036854775808) && e.all (fun b => decide (0 ≤ b) && decide (b < 256))
theorem okE_of {e : List Int} (h : okE e = true) : e.length < 9223372036854775808 ∧ ∃ l : List Nat, e = nats l ∧ ∀ b ∈ l, b < 256 := by
  unfold okE at h
  rw [Bool.and_eq_true, List.all_eq_true] at h
  obtain ⟨h1, h2⟩ := h
  have h3 : ∀ b ∈ e, 0 ≤ b ∧ b < 256 := fun b hb => by
    have := h2 b hb
    rw [Bool.and_eq_true] at this
    exact ⟨of_decide_eq_true this.1, of_decide_eq_true this.2⟩
  obtain ⟨l, rfl⟩ := nats_of (xs := e) fun b hb => (h3 b hb).1
  exact ⟨of_decide_eq_true h1, l, rfl, fun b hb => Int.ofNat_lt.mp (h3 b (List.mem_map.mpr ⟨b, hb, rfl⟩)).2⟩
/-- words -/
def okW (x : List Int) : Bool := decide (x.length = 5) && x.all (fun b => decide (0 ≤ b) && decide (b < 18446744073709551616))
theorem okW_of {x : List Int} (h : okW x = true) : ∃ a0 a1 a2 a3 a4 : Nat, x = nats [a0, a1, a2, a3, a4] ∧ a0 < 18446744073709551616 ∧ a1 < 18446744073709551616 ∧ a2 < 18446744073709551616 ∧ a3 < 18446744073709551616 ∧ a4 < 18446744073709551616 := by
  unfold okW at h
  rw [Bool.and_eq_true, List.all_eq_true] at h
  obtain ⟨h1, h2⟩ := h
  have h3 : ∀ b ∈ x, 0 ≤ b ∧ b < 18446744073709551616 := fun b hb => by
    have := h2 b hb
    rw [Bool.and_eq_true] at this
    exact ⟨of_decide_eq_true this.1, of_decide_eq_true this.2⟩
  obtain ⟨l, rfl⟩ := nats_of (xs := x) fun b hb => (h3 b hb).1
  have hl : l.length = 5 := by rw [← nats_length]; exact of_decide_eq_true h1
  match l, hl with
  | [a0, a1, a2, a3, a4], _ =>
    have hb : ∀ n ∈ [a0, a1, a2, a3, a4], n < 18446744073709551616 := fun n hn => Int.ofNat_lt.mp (h3 n (List.mem_map.mpr ⟨n, hn, rfl⟩)).2
    exact ⟨a0, a1, a2, a3, a4, rfl, hb _ (by simp), hb _ (by simp), hb _ (by simp), hb _ (by simp), hb _ (by simp)⟩
/-- the number of some limbs -/
def numW (x : List Int) : Nat := valB 2251799813685248 (x.map Int.toNat)
/-- the limbs of a number -/
def limN (v : Nat) : List Int := nats (digs 2251799813685248 5 v)
theorem least_lim {x : List Int} {v : Nat} (h : El x v) : leastL x = limN v := by
  obtain ⟨u0, u1, u2, u3, u4, e, h0, h1, h2, h3, h4, hv⟩ := least_el h
  rw [e, ← hv, ← val5_eq]
  unfold limN
  refine congrArg nats (digs_of (b := 2251799813685248) (by decide) (l := [u0, u1, u2, u3, u4]) ?_).symm
  intro x hx
  simp only [List.mem_cons, List.not_mem_nil, or_false] at hx
  omega
theorem zero_bytes : List.replicate 32 0 = feN 0 := by rw [feN_def]; decide
theorem one_bytes : (List.replicate 32 (0 : Int)).set 0 1 = feN 1 := by rw [feN_def]; decide
theorem feN_bit (v : Nat) : (andI .u8 ((feN v).getD (Int.toNat 0) 0) 1 == 1) = (v % 2 == 1) := by
  rw [feN_def, nats_getD, digs_getD _ _ _ _ (by decide)]
  rw [show Int.toNat 0 = 0 from rfl, Nat.pow_zero, Nat.div_one]
  rw [show andI .u8 ((v % 256 : Nat) : Int) 1 = ((v % 256 % 2 : Nat) : Int) from maskN (k := .u8) (j := 1) rfl (Nat.mod_lt _ (by decide)) (by decide)]
  rw [show v % 256 % 2 = v % 2 by omega]
  rcases Nat.mod_two_eq_zero_or_one v with h | h <;> rw [h] <;> rfl
theorem sel3 {R : Type} (c1 c2 : Bool) (k : List DV → Option R) :
    (bif c1 then k [.v (.one (.int .i64 0))] else bif c2 then k [.v (.one (.int .i64 1))] else k [.v (.one (.int .i64 (-1)))]) = k [.v (.one (.int .i64 (bif c1 then 0 else bif c2 then 1 else -1)))] := by
  cases c1 <;> cases c2 <;> rfl
def joinI (a0 a1 a2 a3 a4 : Int) : List Int :=
  [IntKind.u64.wrap (IntKind.u64.wrap (0 + andI .u64 a0 2251799813685247) + IntKind.u64.wrap (19 * shrI .u64 a4 51)), IntKind.u64.wrap (IntKind.u64.wrap (0 + shrI .u64 a0 51) + andI .u64 a1 2251799813685247), IntKind.u64.wrap (IntKind.u64.wrap (0 + shrI .u64 a1 51) + andI .u64 a2 2251799813685247), IntKind.u64.wrap (IntKind.u64.wrap (0 + shrI .u64 a2 51) + andI .u64 a3 2251799813685247), IntKind.u64.wrap (IntKind.u64.wrap (0 + shrI .u64 a3 51) + andI .u64 a4 2251799813685247)]
theorem join_eq {R : Type} (a0 a1 a2 a3 a4 : Int) (k : List DV → Option R) : f15_raw 0 [a0, a1, a2, a3, a4] k = k [.v (.one (.ints .u8 32 (feL (joinI a0 a1 a2 a3 a4))))] := by kernel_rfl
theorem join_el {a0 a1 a2 a3 a4 : Nat} (h0 : a0 < 18446744073709551616) (h1 : a1 < 18446744073709551616) (h2 : a2 < 18446744073709551616) (h3 : a3 < 18446744073709551616) (h4 : a4 < 18446744073709551616) : El (joinI (a0 : Int) (a1 : Int) (a2 : Int) (a3 : Int) (a4 : Int)) (val5 a0 a1 a2 a3 a4 % p25519) := by
  unfold joinI
  rw [and51 h0, and51 h1, and51 h2, and51 h3, and51 h4, shr51, shr51, shr51, shr51, shr51]
  simp only [Int.zero_add]
  rw [w64 (n := a0 % 2251799813685248) (by omega), show IntKind.u64.wrap (19 * ((a4 / 2251799813685248 : Nat) : Int)) = ((19 * (a4 / 2251799813685248) : Nat) : Int) from w64 (n := 19 * (a4 / 2251799813685248)) (by omega), show IntKind.u64.wrap (((a0 % 2251799813685248 : Nat) : Int) + ((19 * (a4 / 2251799813685248) : Nat) : Int)) = ((a0 % 2251799813685248 + 19 * (a4 / 2251799813685248) : Nat) : Int) from w64 (n := a0 % 2251799813685248 + 19 * (a4 / 2251799813685248)) (by omega)]
  rw [w64 (n := a0 / 2251799813685248) (by omega), show IntKind.u64.wrap (((a0 / 2251799813685248 : Nat) : Int) + ((a1 % 2251799813685248 : Nat) : Int)) = ((a0 / 2251799813685248 + a1 % 2251799813685248 : Nat) : Int) from w64 (n := a0 / 2251799813685248 + a1 % 2251799813685248) (by omega)]
  rw [w64 (n := a1 / 2251799813685248) (by omega), show IntKind.u64.wrap (((a1 / 2251799813685248 : Nat) : Int) + ((a2 % 2251799813685248 : Nat) : Int)) = ((a1 / 2251799813685248 + a2 % 2251799813685248 : Nat) : Int) from w64 (n := a1 / 2251799813685248 + a2 % 2251799813685248) (by omega)]
  rw [w64 (n := a2 / 2251799813685248) (by omega), show IntKind.u64.wrap (((a2 / 2251799813685248 : Nat) : Int) + ((a3 % 2251799813685248 : Nat) : Int)) = ((a2 / 2251799813685248 + a3 % 2251799813685248 : Nat) : Int) from w64 (n := a2 / 2251799813685248 + a3 % 2251799813685248) (by omega)]
  rw [w64 (n := a3 / 2251799813685248) (by omega), show IntKind.u64.wrap (((a3 / 2251799813685248 : Nat) : Int) + ((a4 % 2251799813685248 : Nat) : Int)) = ((a3 / 2251799813685248 + a4 % 2251799813685248 : Nat) : Int) from w64 (n := a3 / 2251799813685248 + a4 % 2251799813685248) (by omega)]
  refine ⟨_, _, _, _, _, rfl, ⟨by omega, by omega, by omega, by omega, by omega⟩, mod_of (q := a4 / 2251799813685248) ?_⟩
  unfold val5 p25519
  omega

theorem f13_num {R : Type} (x : List Int) (hx : (okB x) = true) (k : List DV → Option R) : f13_raw 0 x k = k [.v (.one (.ints .u64 5 (limN (vB x))))] := by
  unfold f13_raw
  rw [least_lim (load_vB hx)]
noncomputable def I13 : (R : Type) → List DV → (List DV → Option R) → Option R := fun _ ds k => match ds with
  | [.v (.one (.ints .u8 32 x))] => bif okB x then k [.v (.one (.ints .u64 5 (limN (vB x))))] else none
  | _ => none
theorem c13 : Contract Try.prog 13 { sig := S13, impl := I13 } := by
  refine Contract.refine fun R ds k r h => ⟨_, f13_contract 0 GD_ok, ?_⟩
  unfold I13 at h
  split at h
  · rename_i x
    rcases hc : okB x with _ | _
    · rw [hc] at h; cases h
    · rw [hc, cond_true] at h
      rw [f13_raw_eq, f13_num x hc]; exact h
  · cases h

theorem f15_num {R : Type} (x : List Int) (hx : (okW x) = true) (k : List DV → Option R) : f15_raw 0 x k = k [.v (.one (.ints .u8 32 (feN (numW x % p25519))))] := by
  obtain ⟨a0, a1, a2, a3, a4, rfl, h0, h1, h2, h3, h4⟩ := okW_of hx
  rw [show numW (nats [a0, a1, a2, a3, a4]) = val5 a0 a1 a2 a3 a4 by unfold numW; rw [nats_toNat, val5_eq]]
  refine (join_eq (a0 : Int) a1 a2 a3 a4 k).trans ?_
  rw [fe_num (join_el h0 h1 h2 h3 h4)]
noncomputable def I15 : (R : Type) → List DV → (List DV → Option R) → Option R := fun _ ds k => match ds with
  | [.v (.one (.ints .u64 5 x))] => bif okW x then k [.v (.one (.ints .u8 32 (feN (numW x % p25519))))] else none
  | _ => none
theorem c15 : Contract Try.prog 15 { sig := S15, impl := I15 } := by
  refine Contract.refine fun R ds k r h => ⟨_, f15_contract 0 GD_ok, ?_⟩
  unfold I15 at h
  split at h
  · rename_i x
    rcases hc : okW x with _ | _
    · rw [hc] at h; cases h
    · rw [hc, cond_true] at h
      rw [f15_raw_eq, f15_num x hc]; exact h
  · cases h

theorem f18_num {R : Type} (x : List Int) (e : List Int) (hx : (okB x) = true) (he : (okE e) = true) (k : List DV → Option R) : f18_raw 0 x e k = k [.v (.one (.ints .u8 32 (feN (pw (vB x) (numB e)))))] := by
  obtain ⟨h1, l, rfl, h2⟩ := okE_of he
  unfold f18_raw
  rw [decide_eq_true h1, cond_true, fe_num (pow_el (load_vB hx) h2), numB_nats, ← pw_eq]
noncomputable def I18 : (R : Type) → List DV → (List DV → Option R) → Option R := fun _ ds k => match ds with
  | [.v (.one (.ints .u8 32 x)), .lst .u8 1 e] => bif okB x && okE e then k [.v (.one (.ints .u8 32 (feN (pw (vB x) (numB e)))))] else none
  | _ => none
theorem c18 : Contract Try.prog 18 { sig := S18, impl := I18 } := by
  refine Contract.refine fun R ds k r h => ⟨_, f18_contract 0 GD_ok, ?_⟩
  unfold I18 at h
  split at h
  · rename_i x e
    rcases hc : okB x && okE e with _ | _
    · rw [hc] at h; cases h
    · rw [hc, cond_true] at h
      simp only [Bool.and_eq_true] at hc
      rw [f18_raw_eq, f18_num x e hc.1 hc.2]; exact h
  · cases h

theorem f21_num {R : Type} (x : List Int) (hx : (okB x) = true) (k : List DV → Option R) : f21_raw 0 x k = k [.v (.one (.int .i64 (legI (vB x))))] := by
  unfold f21_raw
  dsimp only
  rw [one_bytes, zero_bytes, fe_num (pow_lit (load_vB hx) (by decide))]
  rw [show decide (feN (pw (vB x) 28948022309329048855892746252171976963317496166410141009864396001978282409974) = feN 0) = decide (pw (vB x) ph = 0) from decide_eq_decide.mpr (feN_eq (pw_lt _ _) (by decide)), show decide (feN (pw (vB x) 28948022309329048855892746252171976963317496166410141009864396001978282409974) = feN 1) = decide (pw (vB x) ph = 1) from decide_eq_decide.mpr (feN_eq (pw_lt _ _) (by decide))]
  rw [legI_def]
  unfold legR
  exact sel3 _ _ k
noncomputable def I21 : (R : Type) → List DV → (List DV → Option R) → Option R := fun _ ds k => match ds with
  | [.v (.one (.ints .u8 32 x))] => bif okB x then k [.v (.one (.int .i64 (legI (vB x))))] else none
  | _ => none
theorem c21 : Contract Try.prog 21 { sig := S21, impl := I21 } := by
  refine Contract.refine fun R ds k r h => ⟨_, f21_contract 0 GD_ok, ?_⟩
  unfold I21 at h
  split at h
  · rename_i x
    rcases hc : okB x with _ | _
    · rw [hc] at h; cases h
    · rw [hc, cond_true] at h
      rw [f21_raw_eq, f21_num x hc]; exact h
  · cases h

theorem f23_num {R : Type} (x : List Int) (y : List Int) (hx : (okB x) = true) (hy : (okB y) = true) (k : List DV → Option R) : f23_raw 0 x y k = k [.v (.one (.bool (decide (vB x = vB y))))] := by
  unfold f23_raw
  rw [fe_num (load_vB hx), fe_num (load_vB hy)]
  rw [show decide (feN (vB x) = feN (vB y)) = decide (vB x = vB y) from decide_eq_decide.mpr (feN_eq (vB_lt _) (vB_lt _))]
noncomputable def I23 : (R : Type) → List DV → (List DV → Option R) → Option R := fun _ ds k => match ds with
  | [.v (.one (.ints .u8 32 x)), .v (.one (.ints .u8 32 y))] => bif okB x && okB y then k [.v (.one (.bool (decide (vB x = vB y))))] else none
  | _ => none
theorem c23 : Contract Try.prog 23 { sig := S23, impl := I23 } := by
  refine Contract.refine fun R ds k r h => ⟨_, f23_contract 0 GD_ok, ?_⟩
  unfold I23 at h
  split at h
  · rename_i x y
    rcases hc : okB x && okB y with _ | _
    · rw [hc] at h; cases h
    · rw [hc, cond_true] at h
      simp only [Bool.and_eq_true] at hc
      rw [f23_raw_eq, f23_num x y hc.1 hc.2]; exact h
  · cases h

theorem f24_num {R : Type} (x : List Int) (y : List Int) (hx : (okB x) = true) (hy : (okB y) = true) (k : List DV → Option R) : f24_raw 0 x y k = k [.v (.one (.ints .u8 32 (feN (mulN (vB x) (vB y)))))] := by
  unfold f24_raw
  rw [fe_num (times_N (load_vB hx) (load_vB hy))]
noncomputable def I24 : (R : Type) → List DV → (List DV → Option R) → Option R := fun _ ds k => match ds with
  | [.v (.one (.ints .u8 32 x)), .v (.one (.ints .u8 32 y))] => bif okB x && okB y then k [.v (.one (.ints .u8 32 (feN (mulN (vB x) (vB y)))))] else none
  | _ => none
theorem c24 : Contract Try.prog 24 { sig := S24, impl := I24 } := by
  refine Contract.refine fun R ds k r h => ⟨_, f24_contract 0 GD_ok, ?_⟩
  unfold I24 at h
  split at h
  · rename_i x y
    rcases hc : okB x && okB y with _ | _
    · rw [hc] at h; cases h
    · rw [hc, cond_true] at h
      simp only [Bool.and_eq_true] at hc
      rw [f24_raw_eq, f24_num x y hc.1 hc.2]; exact h
  · cases h

theorem f25_num {R : Type} (x : List Int) (hx : (okB x) = true) (k : List DV → Option R) : f25_raw 0 x k = k [.v (.one (.ints .u8 32 (feN (pw (vB x) pm2))))] := by
  unfold f25_raw
  rw [fe_num (inverse_el (load_vB hx))]
noncomputable def I25 : (R : Type) → List DV → (List DV → Option R) → Option R := fun _ ds k => match ds with
  | [.v (.one (.ints .u8 32 x))] => bif okB x then k [.v (.one (.ints .u8 32 (feN (pw (vB x) pm2))))] else none
  | _ => none
theorem c25 : Contract Try.prog 25 { sig := S25, impl := I25 } := by
  refine Contract.refine fun R ds k r h => ⟨_, f25_contract 0 GD_ok, ?_⟩
  unfold I25 at h
  split at h
  · rename_i x
    rcases hc : okB x with _ | _
    · rw [hc] at h; cases h
    · rw [hc, cond_true] at h
      rw [f25_raw_eq, f25_num x hc]; exact h
  · cases h

theorem f30_num {R : Type} (x : List Int) (hx : (okB x) = true) (k : List DV → Option R) : f30_raw 0 x k = k [.v (.one (.bool (vB x % 2 == 1)))] := by
  unfold f30_raw
  dsimp only
  rw [fe_num (load_vB hx), feN_bit]
noncomputable def I30 : (R : Type) → List DV → (List DV → Option R) → Option R := fun _ ds k => match ds with
  | [.v (.one (.ints .u8 32 x))] => bif okB x then k [.v (.one (.bool (vB x % 2 == 1)))] else none
  | _ => none
theorem c30 : Contract Try.prog 30 { sig := S30, impl := I30 } := by
  refine Contract.refine fun R ds k r h => ⟨_, f30_contract 0 GD_ok, ?_⟩
  unfold I30 at h
  split at h
  · rename_i x
    rcases hc : okB x with _ | _
    · rw [hc] at h; cases h
    · rw [hc, cond_true] at h
      rw [f30_raw_eq, f30_num x hc]; exact h
  · cases h

theorem f41_num {R : Type} (x : List Int) (hx : (okB x) = true) (k : List DV → Option R) : f41_raw 0 x k = k [.v (.one (.bool (decide (numB x < p25519))))] := by
  unfold f41_raw
  rw [fe_num (load_vB hx)]
  rw [show decide (feN (vB x) = x) = decide (numB x < p25519) from decide_eq_decide.mpr ?_]
  constructor
  · intro h; rw [← h, numB_lt (Nat.lt_trans (vB_lt x) p_lt)]; exact vB_lt x
  · intro h; rw [vB_def, Nat.mod_eq_of_lt h, feN_numB hx]
noncomputable def I41 : (R : Type) → List DV → (List DV → Option R) → Option R := fun _ ds k => match ds with
  | [.v (.one (.ints .u8 32 x))] => bif okB x then k [.v (.one (.bool (decide (numB x < p25519))))] else none
  | _ => none
theorem c41 : Contract Try.prog 41 { sig := S41, impl := I41 } := by
  refine Contract.refine fun R ds k r h => ⟨_, f41_contract 0 GD_ok, ?_⟩
  unfold I41 at h
  split at h
  · rename_i x
    rcases hc : okB x with _ | _
    · rw [hc] at h; cases h
    · rw [hc, cond_true] at h
      rw [f41_raw_eq, f41_num x hc]; exact h
  · cases h

theorem f43_num {R : Type} (x : List Int) (y : List Int) (hx : (okB x) = true) (hy : (okB y) = true) (k : List DV → Option R) : f43_raw 0 x y k = k [.v (.one (.ints .u8 32 (feN (addN (vB x) (vB y)))))] := by
  unfold f43_raw
  rw [fe_num (plus_N (load_vB hx) (load_vB hy))]
noncomputable def I43 : (R : Type) → List DV → (List DV → Option R) → Option R := fun _ ds k => match ds with
  | [.v (.one (.ints .u8 32 x)), .v (.one (.ints .u8 32 y))] => bif okB x && okB y then k [.v (.one (.ints .u8 32 (feN (addN (vB x) (vB y)))))] else none
  | _ => none
theorem c43 : Contract Try.prog 43 { sig := S43, impl := I43 } := by
  refine Contract.refine fun R ds k r h => ⟨_, f43_contract 0 GD_ok, ?_⟩
  unfold I43 at h
  split at h
  · rename_i x y
    rcases hc : okB x && okB y with _ | _
    · rw [hc] at h; cases h
    · rw [hc, cond_true] at h
      simp only [Bool.and_eq_true] at hc
      rw [f43_raw_eq, f43_num x y hc.1 hc.2]; exact h
  · cases h

theorem f45_num {R : Type} (x : List Int) (y : List Int) (hx : (okB x) = true) (hy : (okB y) = true) (k : List DV → Option R) : f45_raw 0 x y k = k [.v (.one (.ints .u8 32 (feN (subN (vB x) (vB y)))))] := by
  unfold f45_raw
  rw [fe_num (minus_N (load_vB hx) (load_vB hy))]
noncomputable def I45 : (R : Type) → List DV → (List DV → Option R) → Option R := fun _ ds k => match ds with
  | [.v (.one (.ints .u8 32 x)), .v (.one (.ints .u8 32 y))] => bif okB x && okB y then k [.v (.one (.ints .u8 32 (feN (subN (vB x) (vB y)))))] else none
  | _ => none
theorem c45 : Contract Try.prog 45 { sig := S45, impl := I45 } := by
  refine Contract.refine fun R ds k r h => ⟨_, f45_contract 0 GD_ok, ?_⟩
  unfold I45 at h
  split at h
  · rename_i x y
    rcases hc : okB x && okB y with _ | _
    · rw [hc] at h; cases h
    · rw [hc, cond_true] at h
      simp only [Bool.and_eq_true] at hc
      rw [f45_raw_eq, f45_num x y hc.1 hc.2]; exact h
  · cases h

theorem f53_num {R : Type} (x : List Int) (y : List Int) (c : Bool) (hx : (okB x) = true) (hy : (okB y) = true) (k : List DV → Option R) : f53_raw 0 x y c k = k [.v (.one (.ints .u8 32 (feN (bif c then vB y else vB x))))] := by
  unfold f53_raw
  rw [fe_num (load_vB hx), fe_num (load_vB hy)]
  cases c <;> rfl
noncomputable def I53 : (R : Type) → List DV → (List DV → Option R) → Option R := fun _ ds k => match ds with
  | [.v (.one (.ints .u8 32 x)), .v (.one (.ints .u8 32 y)), .v (.one (.bool c))] => bif okB x && okB y then k [.v (.one (.ints .u8 32 (feN (bif c then vB y else vB x))))] else none
  | _ => none
theorem c53 : Contract Try.prog 53 { sig := S53, impl := I53 } := by
  refine Contract.refine fun R ds k r h => ⟨_, f53_contract 0 GD_ok, ?_⟩
  unfold I53 at h
  split at h
  · rename_i x y c
    rcases hc : okB x && okB y with _ | _
    · rw [hc] at h; cases h
    · rw [hc, cond_true] at h
      simp only [Bool.and_eq_true] at hc
      rw [f53_raw_eq, f53_num x y c hc.1 hc.2]; exact h
  · cases h

noncomputable def GE : Ctx := [(66, { sig := S66, impl := I66 }), (70, { sig := S70, impl := I70 }), (72, { sig := S72, impl := I72 }), (73, { sig := S73, impl := I73 }), (74, { sig := S74, impl := I74 }), (75, { sig := S75, impl := I75 }), (94, { sig := S94, impl := I94 }), (97, { sig := S97, impl := I97 }), (13, { sig := S13, impl := I13 }), (15, { sig := S15, impl := I15 }), (18, { sig := S18, impl := I18 }), (21, { sig := S21, impl := I21 }), (23, { sig := S23, impl := I23 }), (24, { sig := S24, impl := I24 }), (25, { sig := S25, impl := I25 }), (30, { sig := S30, impl := I30 }), (41, { sig := S41, impl := I41 }), (43, { sig := S43, impl := I43 }), (45, { sig := S45, impl := I45 }), (53, { sig := S53, impl := I53 })]
theorem GE_ok : CtxOk Try.prog GE := ctxOk_cons ok66 rfl c66 (ctxOk_cons ok70 rfl c70 (ctxOk_cons ok72 rfl c72 (ctxOk_cons ok73 rfl c73 (ctxOk_cons ok74 rfl c74 (ctxOk_cons ok75 rfl c75 (ctxOk_cons ok94 rfl c94 (ctxOk_cons ok97 rfl c97 (ctxOk_cons ok13 rfl c13 (ctxOk_cons ok15 rfl c15 (ctxOk_cons ok18 rfl c18 (ctxOk_cons ok21 rfl c21 (ctxOk_cons ok23 rfl c23 (ctxOk_cons ok24 rfl c24 (ctxOk_cons ok25 rfl c25 (ctxOk_cons ok30 rfl c30 (ctxOk_cons ok41 rfl c41 (ctxOk_cons ok43 rfl c43 (ctxOk_cons ok45 rfl c45 (ctxOk_cons ok53 rfl c53 ctxOk_nil)))))))))))))))))))
end Go.Proofs.Ytcgolglcjfknpaa

/- What rime/field.Neg comes to. MADE BY PROGRAM (wip/tools/mkfn.py, EngGen.lean). -/
namespace Go.Proofs.Ytcgolglcjfknpaa
open Go Go.Eng
set_option maxRecDepth 100000
set_option linter.unusedVariables false

noncomputable def f22_raw {R : Type} (N : Nat) (x : List Int) (k : List DV → Option R) : Option R :=
 bif okB (List.replicate 32 0) && okB x then k [DV.v (SV.one (At.ints IntKind.u8 32 (feN (subN (vB (List.replicate 32 0)) (vB x)))))] else Option.none


noncomputable def E22 (N : Nat) : Env := { Θ := Th, Γ := GE, K := K22, ν := N22, fuel := 60, lp := [] }


theorem f22_contract (N : Nat) (hΓ : CtxOk Try.prog GE) : Contract Try.prog 22 { sig := S22, impl := fun _ ds k => call (E22 N) S22 6 B22 R22 ds k } :=
  call_contract (E := E22 N) thOk hΓ mixed ok22.look ok22.body ok22.n ok22.rv ok22.name rfl (by decide) (loopsOk_of (l := []) (by kernel_rfl) trivial)
theorem f22_raw_eq {R : Type} (N : Nat) (x : List Int) (k : List DV → Option R) : call (E22 N) S22 6 B22 R22 [.v (.one (.ints .u8 32 x))] k = f22_raw N x k := by kernel_rfl
end Go.Proofs.Ytcgolglcjfknpaa

/- What rime/field.Square comes to. MADE BY PROGRAM (wip/tools/mkfn.py, EngGen.lean). -/
namespace Go.Proofs.Ytcgolglcjfknpaa
open Go Go.Eng
set_option maxRecDepth 100000
set_option linter.unusedVariables false

noncomputable def f42_raw {R : Type} (N : Nat) (x : List Int) (k : List DV → Option R) : Option R :=
 bif okB x && okB x then k [DV.v (SV.one (At.ints IntKind.u8 32 (feN (mulN (vB x) (vB x)))))] else Option.none


noncomputable def E42 (N : Nat) : Env := { Θ := Th, Γ := GE, K := K42, ν := N42, fuel := 60, lp := [] }


theorem f42_contract (N : Nat) (hΓ : CtxOk Try.prog GE) : Contract Try.prog 42 { sig := S42, impl := fun _ ds k => call (E42 N) S42 6 B42 R42 ds k } :=
  call_contract (E := E42 N) thOk hΓ mixed ok42.look ok42.body ok42.n ok42.rv ok42.name rfl (by decide) (loopsOk_of (l := []) (by kernel_rfl) trivial)
theorem f42_raw_eq {R : Type} (N : Nat) (x : List Int) (k : List DV → Option R) : call (E42 N) S42 6 B42 R42 [.v (.one (.ints .u8 32 x))] k = f42_raw N x k := by kernel_rfl
end Go.Proofs.Ytcgolglcjfknpaa

/- What rime/field.Double comes to. MADE BY PROGRAM (wip/tools/mkfn.py, EngGen.lean). -/
namespace Go.Proofs.Ytcgolglcjfknpaa
open Go Go.Eng
set_option maxRecDepth 100000
set_option linter.unusedVariables false

noncomputable def f48_raw {R : Type} (N : Nat) (x : List Int) (k : List DV → Option R) : Option R :=
 bif okB x && okB x then k [DV.v (SV.one (At.ints IntKind.u8 32 (feN (addN (vB x) (vB x)))))] else Option.none


noncomputable def E48 (N : Nat) : Env := { Θ := Th, Γ := GE, K := K48, ν := N48, fuel := 60, lp := [] }


theorem f48_contract (N : Nat) (hΓ : CtxOk Try.prog GE) : Contract Try.prog 48 { sig := S48, impl := fun _ ds k => call (E48 N) S48 6 B48 R48 ds k } :=
  call_contract (E := E48 N) thOk hΓ mixed ok48.look ok48.body ok48.n ok48.rv ok48.name rfl (by decide) (loopsOk_of (l := []) (by kernel_rfl) trivial)
theorem f48_raw_eq {R : Type} (N : Nat) (x : List Int) (k : List DV → Option R) : call (E48 N) S48 6 B48 R48 [.v (.one (.ints .u8 32 x))] k = f48_raw N x k := by kernel_rfl
end Go.Proofs.Ytcgolglcjfknpaa

/- What rime/field.FromInt comes to. MADE BY PROGRAM (wip/tools/mkfn.py, EngGen.lean). -/
namespace Go.Proofs.Ytcgolglcjfknpaa
open Go Go.Eng
set_option maxRecDepth 100000
set_option linter.unusedVariables false

noncomputable def f55_raw {R : Type} (N : Nat) (x : Int) (k : List DV → Option R) : Option R :=
 let v0 : List Int := (List.replicate 5 0).set 0 x;
bif okW v0 then k [DV.v (SV.one (At.ints IntKind.u8 32 (feN (numW v0 % p25519))))] else Option.none


noncomputable def E55 (N : Nat) : Env := { Θ := Th, Γ := GE, K := K55, ν := N55, fuel := 60, lp := [] }


theorem f55_contract (N : Nat) (hΓ : CtxOk Try.prog GE) : Contract Try.prog 55 { sig := S55, impl := fun _ ds k => call (E55 N) S55 6 B55 R55 ds k } :=
  call_contract (E := E55 N) thOk hΓ mixed ok55.look ok55.body ok55.n ok55.rv ok55.name rfl (by decide) (loopsOk_of (l := []) (by kernel_rfl) trivial)
theorem f55_raw_eq {R : Type} (N : Nat) (x : Int) (k : List DV → Option R) : call (E55 N) S55 6 B55 R55 [.v (.one (.int .u64 x))] k = f55_raw N x k := by kernel_rfl
end Go.Proofs.Ytcgolglcjfknpaa

/- field's exported functions, as numbers, go on. -/
namespace Go.Proofs.Ytcgolglcjfknpaa
open Go Go.Eng
set_option maxRecDepth 100000

def okU (x : Int) : Bool := decide (0 ≤ x) && decide (x < 18446744073709551616)
theorem okU_of {x : Int} (h : okU x = true) : ∃ n : Nat, x = (n : Int) ∧ n < 18446744073709551616 := by
  unfold okU at h
  rw [Bool.and_eq_true] at h
  have h1 := of_decide_eq_true h.1
  have h2 := of_decide_eq_true h.2
  exact ⟨x.toNat, by omega, by omega⟩
theorem okB_zero : okB (List.replicate 32 0) = true := by decide
theorem vB_zero : vB (List.replicate 32 0) = 0 := by rw [vB_def]; decide

theorem f22_num {R : Type} (x : List Int) (hx : (okB x) = true) (k : List DV → Option R) : f22_raw 0 x k = k [.v (.one (.ints .u8 32 (feN (subN 0 (vB x)))))] := by
  unfold f22_raw
  rw [okB_zero, hx, vB_zero]; rfl
noncomputable def I22 : (R : Type) → List DV → (List DV → Option R) → Option R := fun _ ds k => match ds with
  | [.v (.one (.ints .u8 32 x))] => bif okB x then k [.v (.one (.ints .u8 32 (feN (subN 0 (vB x)))))] else none
  | _ => none
theorem c22 : Contract Try.prog 22 { sig := S22, impl := I22 } := by
  refine Contract.refine fun R ds k r h => ⟨_, f22_contract 0 GE_ok, ?_⟩
  unfold I22 at h
  split at h
  · rename_i x
    rcases hc : okB x with _ | _
    · rw [hc] at h; cases h
    · rw [hc, cond_true] at h
      rw [f22_raw_eq, f22_num x hc]; exact h
  · cases h

theorem f42_num {R : Type} (x : List Int) (hx : (okB x) = true) (k : List DV → Option R) : f42_raw 0 x k = k [.v (.one (.ints .u8 32 (feN (mulN (vB x) (vB x)))))] := by
  unfold f42_raw
  rw [hx]; rfl
noncomputable def I42 : (R : Type) → List DV → (List DV → Option R) → Option R := fun _ ds k => match ds with
  | [.v (.one (.ints .u8 32 x))] => bif okB x then k [.v (.one (.ints .u8 32 (feN (mulN (vB x) (vB x)))))] else none
  | _ => none
theorem c42 : Contract Try.prog 42 { sig := S42, impl := I42 } := by
  refine Contract.refine fun R ds k r h => ⟨_, f42_contract 0 GE_ok, ?_⟩
  unfold I42 at h
  split at h
  · rename_i x
    rcases hc : okB x with _ | _
    · rw [hc] at h; cases h
    · rw [hc, cond_true] at h
      rw [f42_raw_eq, f42_num x hc]; exact h
  · cases h

theorem f48_num {R : Type} (x : List Int) (hx : (okB x) = true) (k : List DV → Option R) : f48_raw 0 x k = k [.v (.one (.ints .u8 32 (feN (addN (vB x) (vB x)))))] := by
  unfold f48_raw
  rw [hx]; rfl
noncomputable def I48 : (R : Type) → List DV → (List DV → Option R) → Option R := fun _ ds k => match ds with
  | [.v (.one (.ints .u8 32 x))] => bif okB x then k [.v (.one (.ints .u8 32 (feN (addN (vB x) (vB x)))))] else none
  | _ => none
theorem c48 : Contract Try.prog 48 { sig := S48, impl := I48 } := by
  refine Contract.refine fun R ds k r h => ⟨_, f48_contract 0 GE_ok, ?_⟩
  unfold I48 at h
  split at h
  · rename_i x
    rcases hc : okB x with _ | _
    · rw [hc] at h; cases h
    · rw [hc, cond_true] at h
      rw [f48_raw_eq, f48_num x hc]; exact h
  · cases h

theorem f55_num {R : Type} (x : Int) (hx : (okU x) = true) (k : List DV → Option R) : f55_raw 0 x k = k [.v (.one (.ints .u8 32 (feN (x.toNat))))] := by
  obtain ⟨n, rfl, hn⟩ := okU_of hx
  have e1 : okW ((List.replicate 5 0).set 0 (n : Int)) = true := by
    show (decide (_ = 5) && (((decide (0 ≤ (n : Int)) && decide ((n : Int) < 18446744073709551616)) && (List.all [0, 0, 0, 0] fun b => decide (0 ≤ b) && decide (b < (18446744073709551616 : Int)))))) = true
    rw [decide_eq_true (Int.natCast_nonneg n), decide_eq_true (show (n : Int) < 18446744073709551616 by omega)]
    rfl
  have e2 : numW ((List.replicate 5 0).set 0 (n : Int)) = n := by
    show valB 2251799813685248 [(n : Int).toNat, 0, 0, 0, 0] = n
    simp [valB]
  unfold f55_raw
  dsimp only
  rw [e1, cond_true, e2, Nat.mod_eq_of_lt (Nat.lt_trans hn (by decide))]
  rfl
noncomputable def I55 : (R : Type) → List DV → (List DV → Option R) → Option R := fun _ ds k => match ds with
  | [.v (.one (.int .u64 x))] => bif okU x then k [.v (.one (.ints .u8 32 (feN (x.toNat))))] else none
  | _ => none
theorem c55 : Contract Try.prog 55 { sig := S55, impl := I55 } := by
  refine Contract.refine fun R ds k r h => ⟨_, f55_contract 0 GE_ok, ?_⟩
  unfold I55 at h
  split at h
  · rename_i x
    rcases hc : okU x with _ | _
    · rw [hc] at h; cases h
    · rw [hc, cond_true] at h
      rw [f55_raw_eq, f55_num x hc]; exact h
  · cases h

noncomputable def GF : Ctx := [(66, { sig := S66, impl := I66 }), (70, { sig := S70, impl := I70 }), (72, { sig := S72, impl := I72 }), (73, { sig := S73, impl := I73 }), (74, { sig := S74, impl := I74 }), (75, { sig := S75, impl := I75 }), (94, { sig := S94, impl := I94 }), (97, { sig := S97, impl := I97 }), (13, { sig := S13, impl := I13 }), (15, { sig := S15, impl := I15 }), (18, { sig := S18, impl := I18 }), (21, { sig := S21, impl := I21 }), (23, { sig := S23, impl := I23 }), (24, { sig := S24, impl := I24 }), (25, { sig := S25, impl := I25 }), (30, { sig := S30, impl := I30 }), (41, { sig := S41, impl := I41 }), (43, { sig := S43, impl := I43 }), (45, { sig := S45, impl := I45 }), (53, { sig := S53, impl := I53 }), (22, { sig := S22, impl := I22 }), (42, { sig := S42, impl := I42 }), (48, { sig := S48, impl := I48 }), (55, { sig := S55, impl := I55 })]
theorem GF_ok : CtxOk Try.prog GF := ctxOk_cons ok66 rfl c66 (ctxOk_cons ok70 rfl c70 (ctxOk_cons ok72 rfl c72 (ctxOk_cons ok73 rfl c73 (ctxOk_cons ok74 rfl c74 (ctxOk_cons ok75 rfl c75 (ctxOk_cons ok94 rfl c94 (ctxOk_cons ok97 rfl c97 (ctxOk_cons ok13 rfl c13 (ctxOk_cons ok15 rfl c15 (ctxOk_cons ok18 rfl c18 (ctxOk_cons ok21 rfl c21 (ctxOk_cons ok23 rfl c23 (ctxOk_cons ok24 rfl c24 (ctxOk_cons ok25 rfl c25 (ctxOk_cons ok30 rfl c30 (ctxOk_cons ok41 rfl c41 (ctxOk_cons ok43 rfl c43 (ctxOk_cons ok45 rfl c45 (ctxOk_cons ok53 rfl c53 (ctxOk_cons ok22 rfl c22 (ctxOk_cons ok42 rfl c42 (ctxOk_cons ok48 rfl c48 (ctxOk_cons ok55 rfl c55 ctxOk_nil)))))))))))))))))))))))
end Go.Proofs.Ytcgolglcjfknpaa

/- What rime/field.Abs comes to. MADE BY PROGRAM (wip/tools/mkfn.py, EngGen.lean). -/
namespace Go.Proofs.Ytcgolglcjfknpaa
open Go Go.Eng
set_option maxRecDepth 100000
set_option linter.unusedVariables false

noncomputable def f32_raw {R : Type} (N : Nat) (x : List Int) (k : List DV → Option R) : Option R :=
 bif okB x then
 bif okB x then
 bif okB x && okB (feN (subN 0 (vB x))) then
 let v0 : Nat := bif vB x % 2 == 1 then vB (feN (subN 0 (vB x))) else vB x;
 k [DV.v (SV.one (At.ints IntKind.u8 32 (feN v0)))]
 else Option.none
 else Option.none
else Option.none


noncomputable def E32 (N : Nat) : Env := { Θ := Th, Γ := GF, K := K32, ν := N32, fuel := 60, lp := [] }


theorem f32_contract (N : Nat) (hΓ : CtxOk Try.prog GF) : Contract Try.prog 32 { sig := S32, impl := fun _ ds k => call (E32 N) S32 9 B32 R32 ds k } :=
  call_contract (E := E32 N) thOk hΓ mixed ok32.look ok32.body ok32.n ok32.rv ok32.name rfl (by decide) (loopsOk_of (l := []) (by kernel_rfl) trivial)
theorem f32_raw_eq {R : Type} (N : Nat) (x : List Int) (k : List DV → Option R) : call (E32 N) S32 9 B32 R32 [.v (.one (.ints .u8 32 x))] k = f32_raw N x k := by kernel_rfl
end Go.Proofs.Ytcgolglcjfknpaa

/- What rime/field.D comes to. MADE BY PROGRAM (wip/tools/mkfn.py, EngGen.lean). -/
namespace Go.Proofs.Ytcgolglcjfknpaa
open Go Go.Eng
set_option maxRecDepth 100000
set_option linter.unusedVariables false

noncomputable def f37_raw {R : Type} (N : Nat)  (k : List DV → Option R) : Option R :=
 bif okB (feN (Int.toNat 121666)) then bif okB (feN (Int.toNat 121665)) && okB (feN (pw (vB (feN (Int.toNat 121666))) pm2)) then bif okB (feN (mulN (vB (feN (Int.toNat 121665))) (vB (feN (pw (vB (feN (Int.toNat 121666))) pm2))))) then k [DV.v (SV.one (At.ints IntKind.u8 32 (feN (subN 0 (vB (feN (mulN (vB (feN (Int.toNat 121665))) (vB (feN (pw (vB (feN (Int.toNat 121666))) pm2))))))))))] else Option.none else Option.none else Option.none


noncomputable def E37 (N : Nat) : Env := { Θ := Th, Γ := GF, K := K37, ν := N37, fuel := 60, lp := [] }


theorem f37_contract (N : Nat) (hΓ : CtxOk Try.prog GF) : Contract Try.prog 37 { sig := S37, impl := fun _ ds k => call (E37 N) S37 6 B37 R37 ds k } :=
  call_contract (E := E37 N) thOk hΓ mixed ok37.look ok37.body ok37.n ok37.rv ok37.name rfl (by decide) (loopsOk_of (l := []) (by kernel_rfl) trivial)
theorem f37_raw_eq {R : Type} (N : Nat)  (k : List DV → Option R) : call (E37 N) S37 6 B37 R37 [] k = f37_raw N  k := by kernel_rfl
end Go.Proofs.Ytcgolglcjfknpaa

/- field's exported functions, as numbers: Abs, D. -/
namespace Go.Proofs.Ytcgolglcjfknpaa
open Go Go.Eng
set_option maxRecDepth 100000

noncomputable def absN : Nat → Nat := (stk fun v => bif v % 2 == 1 then subN 0 v else v).1
theorem absN_def (v : Nat) : absN v = bif v % 2 == 1 then subN 0 v else v := congrFun (stk fun v => bif v % 2 == 1 then subN 0 v else v).2 v
theorem absN_lt {v : Nat} (h : v < p25519) : absN v < p25519 := by
  rw [absN_def]; cases (v % 2 == 1)
  · exact h
  · exact subN_lt _ _
/-- the curve's d -/
def dN : Nat := 37095705934669439343138083508754565189542113879843219016388785533085940283555
/-- a root of -1 -/
def iN : Nat := 19681161376707505956807079304988542015446066515923890162744021073123829784752

theorem f32_num {R : Type} (x : List Int) (hx : (okB x) = true) (k : List DV → Option R) : f32_raw 0 x k = k [.v (.one (.ints .u8 32 (feN (absN (vB x)))))] := by
  unfold f32_raw
  rw [hx, okB_feN, vB_feN (subN_lt _ _), absN_def]; rfl
noncomputable def I32 : (R : Type) → List DV → (List DV → Option R) → Option R := fun _ ds k => match ds with
  | [.v (.one (.ints .u8 32 x))] => bif okB x then k [.v (.one (.ints .u8 32 (feN (absN (vB x)))))] else none
  | _ => none
theorem c32 : Contract Try.prog 32 { sig := S32, impl := I32 } := by
  refine Contract.refine fun R ds k r h => ⟨_, f32_contract 0 GF_ok, ?_⟩
  unfold I32 at h
  split at h
  · rename_i x
    rcases hc : okB x with _ | _
    · rw [hc] at h; cases h
    · rw [hc, cond_true] at h
      rw [f32_raw_eq, f32_num x hc]; exact h
  · cases h

theorem f37_num {R : Type}   (k : List DV → Option R) : f37_raw 0  k = k [.v (.one (.ints .u8 32 (feN (dN))))] := by
  unfold f37_raw
  simp only [okB_feN, cond_true, Bool.and_self]
  rw [vB_feN (v := Int.toNat 121665) (by decide), vB_feN (v := Int.toNat 121666) (by decide), vB_feN (pw_lt _ _), vB_feN (mulN_lt _ _)]
  rw [show subN 0 (mulN (Int.toNat 121665) (pw (Int.toNat 121666) pm2)) = dN by rw [subN_def, mulN_def, pw_pm]; decide +kernel]
noncomputable def I37 : (R : Type) → List DV → (List DV → Option R) → Option R := fun _ ds k => match ds with
  | [] => k [.v (.one (.ints .u8 32 (feN (dN))))]
  | _ => none
theorem c37 : Contract Try.prog 37 { sig := S37, impl := I37 } := by
  refine Contract.refine fun R ds k r h => ⟨_, f37_contract 0 GF_ok, ?_⟩
  unfold I37 at h
  split at h
  · rw [f37_raw_eq, f37_num]; exact h
  · cases h

noncomputable def GG : Ctx := [(66, { sig := S66, impl := I66 }), (70, { sig := S70, impl := I70 }), (72, { sig := S72, impl := I72 }), (73, { sig := S73, impl := I73 }), (74, { sig := S74, impl := I74 }), (75, { sig := S75, impl := I75 }), (94, { sig := S94, impl := I94 }), (97, { sig := S97, impl := I97 }), (13, { sig := S13, impl := I13 }), (15, { sig := S15, impl := I15 }), (18, { sig := S18, impl := I18 }), (21, { sig := S21, impl := I21 }), (23, { sig := S23, impl := I23 }), (24, { sig := S24, impl := I24 }), (25, { sig := S25, impl := I25 }), (30, { sig := S30, impl := I30 }), (41, { sig := S41, impl := I41 }), (43, { sig := S43, impl := I43 }), (45, { sig := S45, impl := I45 }), (53, { sig := S53, impl := I53 }), (22, { sig := S22, impl := I22 }), (42, { sig := S42, impl := I42 }), (48, { sig := S48, impl := I48 }), (55, { sig := S55, impl := I55 }), (32, { sig := S32, impl := I32 }), (37, { sig := S37, impl := I37 })]
theorem GG_ok : CtxOk Try.prog GG := ctxOk_cons ok66 rfl c66 (ctxOk_cons ok70 rfl c70 (ctxOk_cons ok72 rfl c72 (ctxOk_cons ok73 rfl c73 (ctxOk_cons ok74 rfl c74 (ctxOk_cons ok75 rfl c75 (ctxOk_cons ok94 rfl c94 (ctxOk_cons ok97 rfl c97 (ctxOk_cons ok13 rfl c13 (ctxOk_cons ok15 rfl c15 (ctxOk_cons ok18 rfl c18 (ctxOk_cons ok21 rfl c21 (ctxOk_cons ok23 rfl c23 (ctxOk_cons ok24 rfl c24 (ctxOk_cons ok25 rfl c25 (ctxOk_cons ok30 rfl c30 (ctxOk_cons ok41 rfl c41 (ctxOk_cons ok43 rfl c43 (ctxOk_cons ok45 rfl c45 (ctxOk_cons ok53 rfl c53 (ctxOk_cons ok22 rfl c22 (ctxOk_cons ok42 rfl c42 (ctxOk_cons ok48 rfl c48 (ctxOk_cons ok55 rfl c55 (ctxOk_cons ok32 rfl c32 (ctxOk_cons ok37 rfl c37 ctxOk_nil)))))))))))))))))))))))))
end Go.Proofs.Ytcgolglcjfknpaa

/- What rime/field.SqrtM1 comes to. MADE BY PROGRAM (wip/tools/mkfn.py, EngGen.lean). -/
namespace Go.Proofs.Ytcgolglcjfknpaa
open Go Go.Eng
set_option maxRecDepth 100000
set_option linter.unusedVariables false

noncomputable def f39_raw {R : Type} (N : Nat)  (k : List DV → Option R) : Option R :=
 bif okB (feL (powL (loadL (feN (Int.toNat 2))) (nats (digs 256 32 14474011154664524427946373126085988481658748083205070504932198000989141204987)))) then k [DV.v (SV.one (At.ints IntKind.u8 32 (feN (absN (vB (feL (powL (loadL (feN (Int.toNat 2))) (nats (digs 256 32 14474011154664524427946373126085988481658748083205070504932198000989141204987)))))))))] else Option.none


noncomputable def E39 (N : Nat) : Env := { Θ := Th, Γ := GG, K := K39, ν := N39, fuel := 60, lp := [] }


theorem f39_contract (N : Nat) (hΓ : CtxOk Try.prog GG) : Contract Try.prog 39 { sig := S39, impl := fun _ ds k => call (E39 N) S39 7 B39 R39 ds k } :=
  call_contract (E := E39 N) thOk hΓ mixed ok39.look ok39.body ok39.n ok39.rv ok39.name rfl (by decide) (loopsOk_of (l := []) (by kernel_rfl) trivial)
theorem f39_raw_eq {R : Type} (N : Nat)  (k : List DV → Option R) : call (E39 N) S39 7 B39 R39 [] k = f39_raw N  k := by kernel_rfl
end Go.Proofs.Ytcgolglcjfknpaa

/- field's exported functions, as numbers: SqrtM1. -/
namespace Go.Proofs.Ytcgolglcjfknpaa
open Go Go.Eng
set_option maxRecDepth 100000

theorem f39_num {R : Type}   (k : List DV → Option R) : f39_raw 0  k = k [.v (.one (.ints .u8 32 (feN (iN))))] := by
  unfold f39_raw
  simp only [fe_num (pow_lit (load_vB (okB_feN _)) (by decide : 14474011154664524427946373126085988481658748083205070504932198000989141204987 < _)), okB_feN, cond_true]
  rw [vB_feN (v := Int.toNat 2) (by decide), vB_feN (pw_lt _ _)]
  rw [show absN (pw (Int.toNat 2) 14474011154664524427946373126085988481658748083205070504932198000989141204987) = iN by rw [absN_def, subN_def, pw_pm]; decide +kernel]
noncomputable def I39 : (R : Type) → List DV → (List DV → Option R) → Option R := fun _ ds k => match ds with
  | [] => k [.v (.one (.ints .u8 32 (feN (iN))))]
  | _ => none
theorem c39 : Contract Try.prog 39 { sig := S39, impl := I39 } := by
  refine Contract.refine fun R ds k r h => ⟨_, f39_contract 0 GG_ok, ?_⟩
  unfold I39 at h
  split at h
  · rw [f39_raw_eq, f39_num]; exact h
  · cases h

noncomputable def GH : Ctx := [(66, { sig := S66, impl := I66 }), (70, { sig := S70, impl := I70 }), (72, { sig := S72, impl := I72 }), (73, { sig := S73, impl := I73 }), (74, { sig := S74, impl := I74 }), (75, { sig := S75, impl := I75 }), (94, { sig := S94, impl := I94 }), (97, { sig := S97, impl := I97 }), (13, { sig := S13, impl := I13 }), (15, { sig := S15, impl := I15 }), (18, { sig := S18, impl := I18 }), (21, { sig := S21, impl := I21 }), (23, { sig := S23, impl := I23 }), (24, { sig := S24, impl := I24 }), (25, { sig := S25, impl := I25 }), (30, { sig := S30, impl := I30 }), (41, { sig := S41, impl := I41 }), (43, { sig := S43, impl := I43 }), (45, { sig := S45, impl := I45 }), (53, { sig := S53, impl := I53 }), (22, { sig := S22, impl := I22 }), (42, { sig := S42, impl := I42 }), (48, { sig := S48, impl := I48 }), (55, { sig := S55, impl := I55 }), (32, { sig := S32, impl := I32 }), (37, { sig := S37, impl := I37 }), (39, { sig := S39, impl := I39 })]
theorem GH_ok : CtxOk Try.prog GH := ctxOk_cons ok66 rfl c66 (ctxOk_cons ok70 rfl c70 (ctxOk_cons ok72 rfl c72 (ctxOk_cons ok73 rfl c73 (ctxOk_cons ok74 rfl c74 (ctxOk_cons ok75 rfl c75 (ctxOk_cons ok94 rfl c94 (ctxOk_cons ok97 rfl c97 (ctxOk_cons ok13 rfl c13 (ctxOk_cons ok15 rfl c15 (ctxOk_cons ok18 rfl c18 (ctxOk_cons ok21 rfl c21 (ctxOk_cons ok23 rfl c23 (ctxOk_cons ok24 rfl c24 (ctxOk_cons ok25 rfl c25 (ctxOk_cons ok30 rfl c30 (ctxOk_cons ok41 rfl c41 (ctxOk_cons ok43 rfl c43 (ctxOk_cons ok45 rfl c45 (ctxOk_cons ok53 rfl c53 (ctxOk_cons ok22 rfl c22 (ctxOk_cons ok42 rfl c42 (ctxOk_cons ok48 rfl c48 (ctxOk_cons ok55 rfl c55 (ctxOk_cons ok32 rfl c32 (ctxOk_cons ok37 rfl c37 (ctxOk_cons ok39 rfl c39 ctxOk_nil))))))))))))))))))))))))))
end Go.Proofs.Ytcgolglcjfknpaa

/- What rime/field.SqrtRatio comes to. MADE BY PROGRAM (wip/tools/mkfn.py, EngGen.lean). -/
namespace Go.Proofs.Ytcgolglcjfknpaa
open Go Go.Eng
set_option maxRecDepth 100000
set_option linter.unusedVariables false

noncomputable def f35_raw {R : Type} (N : Nat) (x : List Int) (y : List Int) (k : List DV → Option R) : Option R :=
 bif Decidable.decide (feL (timesL (timesL (timesL (timesL (loadL x) (timesL (timesL (loadL y) (loadL y)) (loadL y))) (powL (timesL (timesL (timesL (loadL x) (timesL (timesL (loadL y) (loadL y)) (loadL y))) (timesL (timesL (loadL y) (loadL y)) (loadL y))) (loadL y)) (nats (digs 256 32 7237005577332262213973186563042994240829374041602535252466099000494570602493)))) (timesL (timesL (loadL x) (timesL (timesL (loadL y) (loadL y)) (loadL y))) (powL (timesL (timesL (timesL (loadL x) (timesL (timesL (loadL y) (loadL y)) (loadL y))) (timesL (timesL (loadL y) (loadL y)) (loadL y))) (loadL y)) (nats (digs 256 32 7237005577332262213973186563042994240829374041602535252466099000494570602493))))) (loadL y)) = feL (loadL x)) then bif okB (feL (timesL (timesL (loadL x) (timesL (timesL (loadL y) (loadL y)) (loadL y))) (powL (timesL (timesL (timesL (loadL x) (timesL (timesL (loadL y) (loadL y)) (loadL y))) (timesL (timesL (loadL y) (loadL y)) (loadL y))) (loadL y)) (nats (digs 256 32 7237005577332262213973186563042994240829374041602535252466099000494570602493))))) then k [DV.v (SV.one (At.ints IntKind.u8 32 (feN (absN (vB (feL (timesL (timesL (loadL x) (timesL (timesL (loadL y) (loadL y)) (loadL y))) (powL (timesL (timesL (timesL (loadL x) (timesL (timesL (loadL y) (loadL y)) (loadL y))) (timesL (timesL (loadL y) (loadL y)) (loadL y))) (loadL y)) (nats (digs 256 32 7237005577332262213973186563042994240829374041602535252466099000494570602493)))))))))), DV.v (SV.one (At.bool Bool.true))] else Option.none else bif Decidable.decide (feL (timesL (timesL (timesL (timesL (loadL x) (timesL (timesL (loadL y) (loadL y)) (loadL y))) (powL (timesL (timesL (timesL (loadL x) (timesL (timesL (loadL y) (loadL y)) (loadL y))) (timesL (timesL (loadL y) (loadL y)) (loadL y))) (loadL y)) (nats (digs 256 32 7237005577332262213973186563042994240829374041602535252466099000494570602493)))) (timesL (timesL (loadL x) (timesL (timesL (loadL y) (loadL y)) (loadL y))) (powL (timesL (timesL (timesL (loadL x) (timesL (timesL (loadL y) (loadL y)) (loadL y))) (timesL (timesL (loadL y) (loadL y)) (loadL y))) (loadL y)) (nats (digs 256 32 7237005577332262213973186563042994240829374041602535252466099000494570602493))))) (loadL y)) = feL (minusL (List.replicate 5 0) (loadL x))) then bif okB (feL (timesL (timesL (timesL (loadL x) (timesL (timesL (loadL y) (loadL y)) (loadL y))) (powL (timesL (timesL (timesL (loadL x) (timesL (timesL (loadL y) (loadL y)) (loadL y))) (timesL (timesL (loadL y) (loadL y)) (loadL y))) (loadL y)) (nats (digs 256 32 7237005577332262213973186563042994240829374041602535252466099000494570602493)))) (loadL (feN iN)))) then k [DV.v (SV.one (At.ints IntKind.u8 32 (feN (absN (vB (feL (timesL (timesL (timesL (loadL x) (timesL (timesL (loadL y) (loadL y)) (loadL y))) (powL (timesL (timesL (timesL (loadL x) (timesL (timesL (loadL y) (loadL y)) (loadL y))) (timesL (timesL (loadL y) (loadL y)) (loadL y))) (loadL y)) (nats (digs 256 32 7237005577332262213973186563042994240829374041602535252466099000494570602493)))) (loadL (feN iN))))))))), DV.v (SV.one (At.bool Bool.true))] else Option.none else bif Decidable.decide (feL (timesL (timesL (timesL (timesL (loadL x) (timesL (timesL (loadL y) (loadL y)) (loadL y))) (powL (timesL (timesL (timesL (loadL x) (timesL (timesL (loadL y) (loadL y)) (loadL y))) (timesL (timesL (loadL y) (loadL y)) (loadL y))) (loadL y)) (nats (digs 256 32 7237005577332262213973186563042994240829374041602535252466099000494570602493)))) (timesL (timesL (loadL x) (timesL (timesL (loadL y) (loadL y)) (loadL y))) (powL (timesL (timesL (timesL (loadL x) (timesL (timesL (loadL y) (loadL y)) (loadL y))) (timesL (timesL (loadL y) (loadL y)) (loadL y))) (loadL y)) (nats (digs 256 32 7237005577332262213973186563042994240829374041602535252466099000494570602493))))) (loadL y)) = feL (timesL (minusL (List.replicate 5 0) (loadL x)) (loadL (feN iN)))) then bif okB (feL (timesL (timesL (timesL (loadL x) (timesL (timesL (loadL y) (loadL y)) (loadL y))) (powL (timesL (timesL (timesL (loadL x) (timesL (timesL (loadL y) (loadL y)) (loadL y))) (timesL (timesL (loadL y) (loadL y)) (loadL y))) (loadL y)) (nats (digs 256 32 7237005577332262213973186563042994240829374041602535252466099000494570602493)))) (loadL (feN iN)))) then k [DV.v (SV.one (At.ints IntKind.u8 32 (feN (absN (vB (feL (timesL (timesL (timesL (loadL x) (timesL (timesL (loadL y) (loadL y)) (loadL y))) (powL (timesL (timesL (timesL (loadL x) (timesL (timesL (loadL y) (loadL y)) (loadL y))) (timesL (timesL (loadL y) (loadL y)) (loadL y))) (loadL y)) (nats (digs 256 32 7237005577332262213973186563042994240829374041602535252466099000494570602493)))) (loadL (feN iN))))))))), DV.v (SV.one (At.bool Bool.false))] else Option.none else bif okB (feL (timesL (timesL (loadL x) (timesL (timesL (loadL y) (loadL y)) (loadL y))) (powL (timesL (timesL (timesL (loadL x) (timesL (timesL (loadL y) (loadL y)) (loadL y))) (timesL (timesL (loadL y) (loadL y)) (loadL y))) (loadL y)) (nats (digs 256 32 7237005577332262213973186563042994240829374041602535252466099000494570602493))))) then k [DV.v (SV.one (At.ints IntKind.u8 32 (feN (absN (vB (feL (timesL (timesL (loadL x) (timesL (timesL (loadL y) (loadL y)) (loadL y))) (powL (timesL (timesL (timesL (loadL x) (timesL (timesL (loadL y) (loadL y)) (loadL y))) (timesL (timesL (loadL y) (loadL y)) (loadL y))) (loadL y)) (nats (digs 256 32 7237005577332262213973186563042994240829374041602535252466099000494570602493)))))))))), DV.v (SV.one (At.bool Bool.false))] else Option.none


noncomputable def E35 (N : Nat) : Env := { Θ := Th, Γ := GH, K := K35, ν := N35, fuel := 60, lp := [] }


theorem f35_contract (N : Nat) (hΓ : CtxOk Try.prog GH) : Contract Try.prog 35 { sig := S35, impl := fun _ ds k => call (E35 N) S35 77 B35 R35 ds k } :=
  call_contract (E := E35 N) thOk hΓ mixed ok35.look ok35.body ok35.n ok35.rv ok35.name rfl (by decide) (loopsOk_of (l := []) (by kernel_rfl) trivial)
theorem f35_raw_eq {R : Type} (N : Nat) (x : List Int) (y : List Int) (k : List DV → Option R) : call (E35 N) S35 77 B35 R35 [.v (.one (.ints .u8 32 x)), .v (.one (.ints .u8 32 y))] k = f35_raw N x y k := by kernel_rfl
end Go.Proofs.Ytcgolglcjfknpaa

/- field's exported functions, as numbers: SqrtRatio. -/
namespace Go.Proofs.Ytcgolglcjfknpaa
open Go Go.Eng
set_option maxRecDepth 100000

/-- the root that is tried for u / v -/
noncomputable def rtN (u v : Nat) : Nat := mulN (mulN u (mulN (mulN v v) v)) (pw (mulN (mulN (mulN u (mulN (mulN v v) v)) (mulN (mulN v v) v)) v) 7237005577332262213973186563042994240829374041602535252466099000494570602493)
/-- its square times v -/
noncomputable def chN (u v : Nat) : Nat := mulN (mulN (rtN u v) (rtN u v)) v
noncomputable def ratR (u v : Nat) : Nat := bif decide (chN u v = u) then absN (rtN u v) else bif decide (chN u v = subN 0 u) then absN (mulN (rtN u v) iN) else bif decide (chN u v = mulN (subN 0 u) iN) then absN (mulN (rtN u v) iN) else absN (rtN u v)
noncomputable def ratN : Nat → Nat → Nat := (stk ratR).1
theorem ratN_def (u v : Nat) : ratN u v = ratR u v := congrFun (congrFun (stk ratR).2 u) v
noncomputable def ratB : Nat → Nat → Bool := (stk fun u v => decide (chN u v = u) || decide (chN u v = subN 0 u)).1
theorem ratB_def (u v : Nat) : ratB u v = (decide (chN u v = u) || decide (chN u v = subN 0 u)) := congrFun (congrFun (stk fun u v => decide (chN u v = u) || decide (chN u v = subN 0 u)).2 u) v
theorem dec_feN {a b : Nat} (ha : a < p25519) (hb : b < p25519) : decide (feN a = feN b) = decide (a = b) := decide_eq_decide.mpr (feN_eq ha hb)
theorem zero_el : El (List.replicate 5 0) 0 := ⟨0, 0, 0, 0, 0, rfl, ⟨by decide, by decide, by decide, by decide, by decide⟩, by decide⟩
theorem bif_lt (c : Bool) {a b : Nat} (ha : a < p25519) (hb : b < p25519) : (bif c then a else b) < p25519 := by
  cases c
  · exact hb
  · exact ha
theorem ratN_lt {u : Nat} (v : Nat) : ratN u v < p25519 := by
  rw [ratN_def]
  unfold ratR
  have h1 := absN_lt (v := rtN u v) (mulN_lt _ _)
  have h2 := absN_lt (v := mulN (rtN u v) iN) (mulN_lt _ _)
  exact bif_lt _ h1 (bif_lt _ h2 (bif_lt _ h2 h1))
theorem sel4 {R : Type} (c1 c2 c3 : Bool) (a b : Nat) (k : List DV → Option R) :
    (bif c1 then bif true then k [.v (.one (.ints .u8 32 (feN a))), .v (.one (.bool true))] else none else bif c2 then bif true then k [.v (.one (.ints .u8 32 (feN b))), .v (.one (.bool true))] else none else bif c3 then bif true then k [.v (.one (.ints .u8 32 (feN b))), .v (.one (.bool false))] else none else bif true then k [.v (.one (.ints .u8 32 (feN a))), .v (.one (.bool false))] else none) =
      k [.v (.one (.ints .u8 32 (feN (bif c1 then a else bif c2 then b else bif c3 then b else a)))), .v (.one (.bool (c1 || c2)))] := by
  cases c1 <;> cases c2 <;> cases c3 <;> rfl

theorem f35_num {R : Type} (x : List Int) (y : List Int) (hx : (okB x) = true) (hy : (okB y) = true) (k : List DV → Option R) : f35_raw 0 x y k = k [.v (.one (.ints .u8 32 (feN (ratN (vB x) (vB y))))), .v (.one (.bool (ratB (vB x) (vB y))))] := by
  have hu := load_vB hx
  have hv := load_vB hy
  have h3 := times_N (times_N hv hv) hv
  have hr : El _ (rtN (vB x) (vB y)) := times_N (times_N hu h3) (pow_lit (e := 7237005577332262213973186563042994240829374041602535252466099000494570602493) (times_N (times_N (times_N hu h3) h3) hv) (by decide))
  have hc : El _ (chN (vB x) (vB y)) := times_N (times_N hr hr) hv
  have hn : El _ (subN 0 (vB x)) := minus_N zero_el hu
  have hi : El (loadL (feN iN)) iN := by
    have := load_vB (okB_feN iN)
    rwa [vB_feN (by decide)] at this
  have hri : El _ (mulN (rtN (vB x) (vB y)) iN) := times_N hr hi
  have hni : El _ (mulN (subN 0 (vB x)) iN) := times_N hn hi
  rw [ratN_def, ratB_def]
  unfold f35_raw ratR
  rw [fe_num hc, fe_num hr, fe_num hu, fe_num hn, fe_num hri, fe_num hni]
  rw [dec_feN hc.lt hu.lt, dec_feN hc.lt hn.lt, dec_feN hc.lt hni.lt, okB_feN, okB_feN, vB_feN hr.lt, vB_feN hri.lt]
  exact sel4 _ _ _ _ _ k
noncomputable def I35 : (R : Type) → List DV → (List DV → Option R) → Option R := fun _ ds k => match ds with
  | [.v (.one (.ints .u8 32 x)), .v (.one (.ints .u8 32 y))] => bif okB x && okB y then k [.v (.one (.ints .u8 32 (feN (ratN (vB x) (vB y))))), .v (.one (.bool (ratB (vB x) (vB y))))] else none
  | _ => none
theorem c35 : Contract Try.prog 35 { sig := S35, impl := I35 } := by
  refine Contract.refine fun R ds k r h => ⟨_, f35_contract 0 GH_ok, ?_⟩
  unfold I35 at h
  split at h
  · rename_i x y
    rcases hc : okB x && okB y with _ | _
    · rw [hc] at h; cases h
    · rw [hc, cond_true] at h
      simp only [Bool.and_eq_true] at hc
      rw [f35_raw_eq, f35_num x y hc.1 hc.2]; exact h
  · cases h

noncomputable def GI : Ctx := [(66, { sig := S66, impl := I66 }), (70, { sig := S70, impl := I70 }), (72, { sig := S72, impl := I72 }), (73, { sig := S73, impl := I73 }), (74, { sig := S74, impl := I74 }), (75, { sig := S75, impl := I75 }), (94, { sig := S94, impl := I94 }), (97, { sig := S97, impl := I97 }), (13, { sig := S13, impl := I13 }), (15, { sig := S15, impl := I15 }), (18, { sig := S18, impl := I18 }), (21, { sig := S21, impl := I21 }), (23, { sig := S23, impl := I23 }), (24, { sig := S24, impl := I24 }), (25, { sig := S25, impl := I25 }), (30, { sig := S30, impl := I30 }), (41, { sig := S41, impl := I41 }), (43, { sig := S43, impl := I43 }), (45, { sig := S45, impl := I45 }), (53, { sig := S53, impl := I53 }), (22, { sig := S22, impl := I22 }), (42, { sig := S42, impl := I42 }), (48, { sig := S48, impl := I48 }), (55, { sig := S55, impl := I55 }), (32, { sig := S32, impl := I32 }), (37, { sig := S37, impl := I37 }), (39, { sig := S39, impl := I39 }), (35, { sig := S35, impl := I35 })]
theorem GI_ok : CtxOk Try.prog GI := ctxOk_cons ok66 rfl c66 (ctxOk_cons ok70 rfl c70 (ctxOk_cons ok72 rfl c72 (ctxOk_cons ok73 rfl c73 (ctxOk_cons ok74 rfl c74 (ctxOk_cons ok75 rfl c75 (ctxOk_cons ok94 rfl c94 (ctxOk_cons ok97 rfl c97 (ctxOk_cons ok13 rfl c13 (ctxOk_cons ok15 rfl c15 (ctxOk_cons ok18 rfl c18 (ctxOk_cons ok21 rfl c21 (ctxOk_cons ok23 rfl c23 (ctxOk_cons ok24 rfl c24 (ctxOk_cons ok25 rfl c25 (ctxOk_cons ok30 rfl c30 (ctxOk_cons ok41 rfl c41 (ctxOk_cons ok43 rfl c43 (ctxOk_cons ok45 rfl c45 (ctxOk_cons ok53 rfl c53 (ctxOk_cons ok22 rfl c22 (ctxOk_cons ok42 rfl c42 (ctxOk_cons ok48 rfl c48 (ctxOk_cons ok55 rfl c55 (ctxOk_cons ok32 rfl c32 (ctxOk_cons ok37 rfl c37 (ctxOk_cons ok39 rfl c39 (ctxOk_cons ok35 rfl c35 ctxOk_nil)))))))))))))))))))))))))))
end Go.Proofs.Ytcgolglcjfknpaa

/- What rime/rimelaw01.alive comes to. MADE BY PROGRAM (wip/tools/mkfn.py, EngGen.lean). -/
namespace Go.Proofs.Ytcgolglcjfknpaa
open Go Go.Eng
set_option maxRecDepth 100000
set_option linter.unusedVariables false

noncomputable def f17_raw {R : Type} (N : Nat)  (k : List DV → Option R) : Option R :=
 bif okB (feN (Int.toNat 4)) && okB (feN (Int.toNat 1)) then
 let v0 : List Int := (List.replicate 32 0).set 0 2;
 let v1 : List Int := (List.replicate 32 0).set 0 3;
 let v2 : List Int := (List.replicate 32 0).set 0 6;
 bif Decidable.decide (feN (mulN (vB v0) (vB v1)) = v2) then
 let v3 : Bool := bif Bool.true then Decidable.decide (feN (ratN (vB (feN (Int.toNat 4))) (vB (feN (Int.toNat 1)))) = v0) else Bool.false;
 bif v3 then
 let v4 : Bool := bif Bool.true then ratB (vB (feN (Int.toNat 4))) (vB (feN (Int.toNat 1))) else Bool.false;
 bif v4 then
 let v5 : Bool := bif Bool.true then legI (vB v0) == -1 else Bool.false;
 bif v5 then
 let v6 : List Int := (List.replicate 32 0).set 0 1;
 let v7 : Bool := bif Bool.true then (feN (subN 0 (vB v6))).getD (Int.toNat 0) 0 == 236 else Bool.false;
 k [DV.v (SV.one (At.bool v7))]
 else k [DV.v (SV.one (At.bool Bool.false))]
 else k [DV.v (SV.one (At.bool Bool.false))]
 else k [DV.v (SV.one (At.bool Bool.false))]
 else k [DV.v (SV.one (At.bool Bool.false))]
else Option.none


noncomputable def E17 (N : Nat) : Env := { Θ := Th, Γ := GI, K := K17, ν := N17, fuel := 60, lp := [] }


theorem f17_contract (N : Nat) (hΓ : CtxOk Try.prog GI) : Contract Try.prog 17 { sig := S17, impl := fun _ ds k => call (E17 N) S17 33 B17 R17 ds k } :=
  call_contract (E := E17 N) thOk hΓ mixed ok17.look ok17.body ok17.n ok17.rv ok17.name rfl (by decide) (loopsOk_of (l := []) (by kernel_rfl) trivial)
theorem f17_raw_eq {R : Type} (N : Nat)  (k : List DV → Option R) : call (E17 N) S17 33 B17 R17 [] k = f17_raw N  k := by kernel_rfl
end Go.Proofs.Ytcgolglcjfknpaa

/- the small example that each law begins with. -/
namespace Go.Proofs.Ytcgolglcjfknpaa
open Go Go.Eng
set_option maxRecDepth 100000

theorem lit1 : (List.replicate 32 (0 : Int)).set 0 1 = feN 1 := by rw [feN_def]; decide
theorem lit2 : (List.replicate 32 (0 : Int)).set 0 2 = feN 2 := by rw [feN_def]; decide
theorem lit3 : (List.replicate 32 (0 : Int)).set 0 3 = feN 3 := by rw [feN_def]; decide
theorem lit6 : (List.replicate 32 (0 : Int)).set 0 6 = feN 6 := by rw [feN_def]; decide
theorem rt41 : rtN 4 1 = 39362322753415011913614158609977084030892133031847780325488042146247659569504 := by unfold rtN; simp only [mulN_def, pw_pm]; decide +kernel
theorem ch41 : chN 4 1 = p25519 - 4 := by unfold chN; rw [rt41]; simp only [mulN_def]; decide
theorem sub04 : subN 0 4 = p25519 - 4 := by rw [subN_def]; decide
theorem rat41 : ratN 4 1 = 2 := by
  rw [ratN_def]; unfold ratR
  rw [ch41, sub04, rt41, decide_eq_false (show ¬ p25519 - 4 = 4 by decide), cond_false, decide_eq_true rfl, cond_true, absN_def, mulN_def, subN_def]
  decide
theorem ratb41 : ratB 4 1 = true := by rw [ratB_def, ch41, sub04, decide_eq_true (rfl : p25519 - 4 = p25519 - 4), Bool.or_true]
theorem leg2 : legI 2 = -1 := by
  rw [legI_def]; unfold legR; rw [pw_pm]; decide +kernel
theorem neg1 : (feN (subN 0 1)).getD (Int.toNat 0) 0 = 236 := by rw [feN_def, subN_def]; decide

theorem f17_num {R : Type}   (k : List DV → Option R) : f17_raw 0  k = k [.v (.one (.bool true))] := by
  unfold f17_raw
  dsimp only
  rw [lit1, lit2, lit3, lit6]
  simp only [okB_feN, cond_true, Bool.and_self]
  rw [vB_feN (v := 2) (by decide), vB_feN (v := 3) (by decide), vB_feN (v := Int.toNat 4) (by decide), vB_feN (v := Int.toNat 1) (by decide), vB_feN (v := 1) (by decide)]
  rw [show mulN 2 3 = 6 by rw [mulN_def]; decide, show ratN (Int.toNat 4) (Int.toNat 1) = 2 from rat41, show ratB (Int.toNat 4) (Int.toNat 1) = true from ratb41, leg2, neg1]
  rw [decide_eq_true (rfl : feN 6 = feN 6), decide_eq_true (rfl : feN 2 = feN 2)]
  rfl
noncomputable def I17 : (R : Type) → List DV → (List DV → Option R) → Option R := fun _ ds k => match ds with
  | [] => k [.v (.one (.bool true))]
  | _ => none
theorem c17 : Contract Try.prog 17 { sig := S17, impl := I17 } := by
  refine Contract.refine fun R ds k r h => ⟨_, f17_contract 0 GI_ok, ?_⟩
  unfold I17 at h
  split at h
  · rw [f17_raw_eq, f17_num]; exact h
  · cases h

noncomputable def GJ : Ctx := [(17, { sig := S17, impl := I17 }), (66, { sig := S66, impl := I66 }), (70, { sig := S70, impl := I70 }), (72, { sig := S72, impl := I72 }), (73, { sig := S73, impl := I73 }), (74, { sig := S74, impl := I74 }), (75, { sig := S75, impl := I75 }), (94, { sig := S94, impl := I94 }), (97, { sig := S97, impl := I97 }), (13, { sig := S13, impl := I13 }), (15, { sig := S15, impl := I15 }), (18, { sig := S18, impl := I18 }), (21, { sig := S21, impl := I21 }), (23, { sig := S23, impl := I23 }), (24, { sig := S24, impl := I24 }), (25, { sig := S25, impl := I25 }), (30, { sig := S30, impl := I30 }), (41, { sig := S41, impl := I41 }), (43, { sig := S43, impl := I43 }), (45, { sig := S45, impl := I45 }), (53, { sig := S53, impl := I53 }), (22, { sig := S22, impl := I22 }), (42, { sig := S42, impl := I42 }), (48, { sig := S48, impl := I48 }), (55, { sig := S55, impl := I55 }), (32, { sig := S32, impl := I32 }), (37, { sig := S37, impl := I37 }), (39, { sig := S39, impl := I39 }), (35, { sig := S35, impl := I35 })]
theorem GJ_ok : CtxOk Try.prog GJ := ctxOk_cons ok17 rfl c17 (ctxOk_cons ok66 rfl c66 (ctxOk_cons ok70 rfl c70 (ctxOk_cons ok72 rfl c72 (ctxOk_cons ok73 rfl c73 (ctxOk_cons ok74 rfl c74 (ctxOk_cons ok75 rfl c75 (ctxOk_cons ok94 rfl c94 (ctxOk_cons ok97 rfl c97 (ctxOk_cons ok13 rfl c13 (ctxOk_cons ok15 rfl c15 (ctxOk_cons ok18 rfl c18 (ctxOk_cons ok21 rfl c21 (ctxOk_cons ok23 rfl c23 (ctxOk_cons ok24 rfl c24 (ctxOk_cons ok25 rfl c25 (ctxOk_cons ok30 rfl c30 (ctxOk_cons ok41 rfl c41 (ctxOk_cons ok43 rfl c43 (ctxOk_cons ok45 rfl c45 (ctxOk_cons ok53 rfl c53 (ctxOk_cons ok22 rfl c22 (ctxOk_cons ok42 rfl c42 (ctxOk_cons ok48 rfl c48 (ctxOk_cons ok55 rfl c55 (ctxOk_cons ok32 rfl c32 (ctxOk_cons ok37 rfl c37 (ctxOk_cons ok39 rfl c39 (ctxOk_cons ok35 rfl c35 ctxOk_nil))))))))))))))))))))))))))))
end Go.Proofs.Ytcgolglcjfknpaa

/- The starts of the laws. -/
namespace Go.Proofs.Ytcgolglcjfknpaa
open Go Go.Eng
/-- no function, but a word to the engine: an 'and' is followed where it says yes -/
def noFI : FI := { sig := { ps := [], rs := [] }, impl := fun _ _ _ => none }
theorem ctxOk_prune {Γ : Ctx} (h : CtxOk Try.prog Γ) : CtxOk Try.prog ((999999, noFI) :: Γ) := by
  intro g fi hg
  unfold findF at hg
  split at hg
  · injection hg with hg; subst hg
    refine ⟨fun R ds k r hr => ?_, fun p hp => ?_⟩
    · cases (show (none : Option R) = some r from hr)
    · cases (show p ∈ ([] : List PM) from hp)
  · exact h g fi hg
noncomputable def GK : Ctx := (999999, noFI) :: GJ
theorem GK_ok : CtxOk Try.prog GK := ctxOk_prune GJ_ok
def start3 (n : Nat) (x y z : List Int) : AS :=
  { n := n, lo := 0, tmps := [(0, .s (.one (.ints .u8 32 x))), (1, .s (.one (.ints .u8 32 y))), (2, .s (.one (.ints .u8 32 z)))], items := [] }
def start2 (n : Nat) (x y : List Int) : AS :=
  { n := n, lo := 0, tmps := [(0, .s (.one (.ints .u8 32 x))), (1, .s (.one (.ints .u8 32 y)))], items := [] }
end Go.Proofs.Ytcgolglcjfknpaa

/- What the rows of the field's laws need. -/
namespace Go.Proofs.Ytcgolglcjfknpaa
open Go Go.Eng Go.ChangeShapes Go.WideShapes Go.RowKit
set_option maxRecDepth 100000
theorem own0 : ownKnob Try.prog.godebug = none := by kernel_rfl
theorem laidOut : laidOutB Try.prog = true := by kernel_rfl
theorem wf_u8 {y : Int} (h : (Lit.int .u8 y).wf = true) : 0 ≤ y ∧ y < 256 := by
  have := bounds_u8 h; omega
theorem okB_row {x : List Int} (hl : x.length = 32) (hw : ∀ y ∈ x, (Lit.int .u8 y).wf = true) : okB x = true := by
  unfold okB
  rw [decide_eq_true hl, Bool.true_and, List.all_eq_true]
  intro b hb
  have := wf_u8 (hw b hb)
  rw [Bool.and_eq_true]
  exact ⟨decide_eq_true this.1, decide_eq_true this.2⟩
end Go.Proofs.Ytcgolglcjfknpaa

/- What the rows of the field's laws need, further. -/
namespace Go.Proofs.Ytcgolglcjfknpaa
open Go Go.Eng Go.ChangeShapes Go.WideShapes Go.RowKit
set_option maxRecDepth 100000
theorem okW_row {x : List Int} (hl : x.length = 5) (hw : ∀ y ∈ x, (Lit.int .u64 y).wf = true) : okW x = true := by
  unfold okW
  rw [decide_eq_true hl, Bool.true_and, List.all_eq_true]
  intro b hb
  have := bounds_u64 (hw b hb)
  rw [Bool.and_eq_true]
  exact ⟨decide_eq_true (by omega), decide_eq_true (by omega)⟩
theorem okE_row {x : List Int} {len : Nat} (hm : len < 9223372036854775808) (hl : x.length = len * 1) (hw : ∀ y ∈ x, (Lit.int .u8 y).wf = true) : okE x = true := by
  unfold okE
  rw [decide_eq_true (by omega), Bool.true_and, List.all_eq_true]
  intro b hb
  have := wf_u8 (hw b hb)
  rw [Bool.and_eq_true]
  exact ⟨decide_eq_true this.1, decide_eq_true this.2⟩
theorem elB (H : Type) (enc : TypeId × Value → H) : IntEl H enc Try.prog 5 .u8 1 := intEl_int Try.underlying5 (by kernel_rfl)
end Go.Proofs.Ytcgolglcjfknpaa

/- What rime/rimeref01.prime comes to. MADE BY PROGRAM (wip/tools/mkfn.py, EngGen.lean). -/
namespace Go.Proofs.Ytcgolglcjfknpaa
open Go Go.Eng
set_option maxRecDepth 100000
set_option linter.unusedVariables false

noncomputable def f128_raw {R : Type} (N : Nat) (x : Int) (k : List DV → Option R) : Option R :=
 bif x == 0 then k [DV.v (SV.one (At.int IntKind.u64 65517))] else bif x == 15 then k [DV.v (SV.one (At.int IntKind.u64 32767))] else k [DV.v (SV.one (At.int IntKind.u64 65535))]


noncomputable def E128 (N : Nat) : Env := { Θ := Th, Γ := [], K := K128, ν := N128, fuel := 0, lp := [] }


theorem f128_contract (N : Nat) (hΓ : CtxOk Try.prog []) : Contract Try.prog 128 { sig := S128, impl := fun _ ds k => call (E128 N) S128 8 B128 R128 ds k } :=
  call_contract (E := E128 N) thOk hΓ mixed ok128.look ok128.body ok128.n ok128.rv ok128.name rfl (by decide) (loopsOk_of (l := []) (by kernel_rfl) trivial)
theorem f128_raw_eq {R : Type} (N : Nat) (x : Int) (k : List DV → Option R) : call (E128 N) S128 8 B128 R128 [.v (.one (.int .i64 x))] k = f128_raw N x k := by kernel_rfl
end Go.Proofs.Ytcgolglcjfknpaa

/- The digits of p, as the document's answer has them. -/
namespace Go.Proofs.Ytcgolglcjfknpaa
open Go Go.Eng
set_option maxRecDepth 100000
def pD (x : Int) : Int := bif x == 0 then 65517 else bif x == 15 then 32767 else 65535
def I128 : (R : Type) → List DV → (List DV → Option R) → Option R := fun _ ds k => match ds with
  | [.v (.one (.int .i64 x))] => k [.v (.one (.int .u64 (pD x)))]
  | _ => none
theorem sel2 {R : Type} (c1 c2 : Bool) (a b c : Int) (k : List DV → Option R) :
    (bif c1 then k [.v (.one (.int .u64 a))] else bif c2 then k [.v (.one (.int .u64 b))] else k [.v (.one (.int .u64 c))]) = k [.v (.one (.int .u64 (bif c1 then a else bif c2 then b else c)))] := by
  cases c1 <;> cases c2 <;> rfl
theorem c128 : Contract Try.prog 128 { sig := S128, impl := I128 } := by
  refine Contract.refine fun R ds k r h => ⟨_, f128_contract 0 ctxOk_nil, ?_⟩
  unfold I128 at h
  split at h
  · rw [f128_raw_eq]
    unfold f128_raw
    rw [← h]
    exact sel2 _ _ _ _ _ k
  · cases h
noncomputable def HA : Ctx := [(128, { sig := S128, impl := I128 })]
theorem HA_ok : CtxOk Try.prog HA := ctxOk_cons ok128 rfl c128 ctxOk_nil
end Go.Proofs.Ytcgolglcjfknpaa

/- What rime/rimeref01.atLeast comes to. MADE BY PROGRAM (wip/tools/mkfn.py, EngGen.lean). -/
namespace Go.Proofs.Ytcgolglcjfknpaa
open Go Go.Eng
set_option maxRecDepth 100000
set_option linter.unusedVariables false

def f129_0_sh : Shp := { n := 20, lo := 1, slots := [(1, .one (.fix (At.ptr 1 0 Off.z 16))), (3, .one (.int IntKind.i64))], items := [(1, .obj [.ints IntKind.u64 16])] }
def f129_0_ex1 : Shp := { n := 20, lo := 1, slots := [(2, .one (.bool)), (13, .one (.bool)), (5, .one (.bool)), (1, .one (.fix (At.ptr 1 0 Off.z 16))), (3, .one (.int IntKind.i64))], items := [(1, .obj [.ints IntKind.u64 16])] }
def f129_0_ex2 : Shp := { n := 20, lo := 1, slots := [(5, .one (.bool)), (1, .one (.fix (At.ptr 1 0 Off.z 16))), (3, .one (.int IntKind.i64))], items := [(1, .obj [.ints IntKind.u64 16])] }
noncomputable def f129_0_st {R : Type} (N : Nat) (self : Int → List Int → Option R) (k1 : Bool → Bool → Bool → Int → List Int → Option R) (k2 : Bool → Int → List Int → Option R) (x1 : Int) (x2 : List Int) : Option R :=
 bif Decidable.decide (x1 ≥ 0) then
 bif Decidable.decide (0 ≤ x1) && Decidable.decide (x1 < 16) then
 bif x2.getD (mulE x1.toNat 1) 0 != pD x1 then bif Decidable.decide (0 ≤ x1) && Decidable.decide (x1 < 16) then k1 (Decidable.decide (x2.getD (mulE x1.toNat 1) 0 > pD x1)) (x2.getD (mulE x1.toNat 1) 0 != pD x1) (Decidable.decide (x1 ≥ 0)) x1 x2 else Option.none
 else
 let v0 : Int := IntKind.i64.wrap (x1 - 1);
 self v0 x2
 else Option.none
else k2 (Decidable.decide (x1 ≥ 0)) x1 x2
noncomputable def f129_0_lp {R : Type} (N : Nat) (k1 : Bool → Bool → Bool → Int → List Int → Option R) (k2 : Bool → Int → List Int → Option R) : Nat → Int → List Int → Option R
 | 0, _, _ => none
 | n + 1, x1, x2 => f129_0_st N (f129_0_lp N k1 k2 n) k1 k2 x1 x2
noncomputable def f129_0_F (N : Nat) : (R : Type) → List Leaf → (X → AS → Option R) → Option R := fun _ ls K => match ls with
 | [.i x1, .l x2] => f129_0_lp N (fun y1 y2 y3 y4 y5 => K (X.ret) (fill f129_0_ex1 [.b y1, .b y2, .b y3, .i y4, .l y5])) (fun y1 y2 y3 => K (X.normal) (fill f129_0_ex2 [.b y1, .i y2, .l y3])) N x1 x2
 | _ => none
noncomputable def f129_raw {R : Type} (N : Nat) (x : List Int) (k : List DV → Option R) : Option R :=
 f129_0_lp N (fun w0_1 w0_2 w0_3 w0_4 w0_5 => k [DV.v (SV.one (At.bool w0_1))]) (fun w1_1 w1_2 w1_3 => k [DV.v (SV.one (At.bool Bool.true))]) N 15 x


noncomputable def E129 (N : Nat) : Env := { Θ := Th, Γ := HA, K := K129, ν := N129, fuel := 0, lp := [(0, mkL N129_0 f129_0_sh (f129_0_F N))] }

theorem f129_0_st_eq {R : Type} (N : Nat) (K : X → AS → Option R) (n : Nat) (x1 : Int) (x2 : List Int) : roundsOf (E129 N) N129_0 0 B129_0 K (n + 1) (fill f129_0_sh [.i x1, .l x2]) = f129_0_st N (fun x1 x2 => roundsOf (E129 N) N129_0 0 B129_0 K n (fill f129_0_sh [.i x1, .l x2])) (fun y1 y2 y3 y4 y5 => K (X.ret) (fill f129_0_ex1 [.b y1, .b y2, .b y3, .i y4, .l y5])) (fun y1 y2 y3 => K (X.normal) (fill f129_0_ex2 [.b y1, .i y2, .l y3])) x1 x2 := by kernel_rfl
theorem f129_0_lp_eq {R : Type} (N : Nat) (K : X → AS → Option R) : ∀ (n : Nat) (x1 : Int) (x2 : List Int), roundsOf (E129 N) N129_0 0 B129_0 K n (fill f129_0_sh [.i x1, .l x2]) = f129_0_lp N (fun y1 y2 y3 y4 y5 => K (X.ret) (fill f129_0_ex1 [.b y1, .b y2, .b y3, .i y4, .l y5])) (fun y1 y2 y3 => K (X.normal) (fill f129_0_ex2 [.b y1, .i y2, .l y3])) n x1 x2
  | 0, _, _ => rfl
  | n + 1, x1, x2 => by
    rw [f129_0_st_eq, f129_0_lp, show (fun x1 x2 => roundsOf (E129 N) N129_0 0 B129_0 K n (fill f129_0_sh [.i x1, .l x2])) = f129_0_lp N (fun y1 y2 y3 y4 y5 => K (X.ret) (fill f129_0_ex1 [.b y1, .b y2, .b y3, .i y4, .l y5])) (fun y1 y2 y3 => K (X.normal) (fill f129_0_ex2 [.b y1, .i y2, .l y3])) n from by funext x1 x2; exact f129_0_lp_eq N K n x1 x2]
theorem f129_0_ok (N : Nat) (hlp : LoopsOk Try.prog (E129 N).lp B129_0) (hΓ : CtxOk Try.prog (E129 N).Γ) : LoopOk Try.prog (mkL N129_0 f129_0_sh (f129_0_F N)) 0 B129_0 := by
  refine loopOk_of (E := E129 N) thOk hΓ mixed hlp ?_
  intro R ls K r h
  unfold f129_0_F at h
  split at h
  · exact ⟨N, by rw [f129_0_lp_eq]; exact h⟩
  · cases h

theorem lok129_0 (N : Nat) (hΓ : CtxOk Try.prog HA) : LoopOk Try.prog (mkL N129_0 f129_0_sh (f129_0_F N)) 0 B129_0 := f129_0_ok N (loopsOk_of (l := []) (by kernel_rfl) trivial) hΓ
theorem f129_contract (N : Nat) (hΓ : CtxOk Try.prog HA) : Contract Try.prog 129 { sig := S129, impl := fun _ ds k => call (E129 N) S129 20 B129 R129 ds k } :=
  call_contract (E := E129 N) thOk hΓ mixed ok129.look ok129.body ok129.n ok129.rv ok129.name rfl (by decide) (loopsOk_of (l := [(0, B129_0)]) (by kernel_rfl) (allOk_cons (L := mkL N129_0 f129_0_sh (f129_0_F N)) rfl (lok129_0 N hΓ) trivial))
theorem f129_raw_eq {R : Type} (N : Nat) (x : List Int) (k : List DV → Option R) : call (E129 N) S129 20 B129 R129 [.v (.one (.ints .u64 16 x))] k = f129_raw N x k := by kernel_rfl
end Go.Proofs.Ytcgolglcjfknpaa

/- What rime/rimeref01.lessP comes to. MADE BY PROGRAM (wip/tools/mkfn.py, EngGen.lean). -/
namespace Go.Proofs.Ytcgolglcjfknpaa
open Go Go.Eng
set_option maxRecDepth 100000
set_option linter.unusedVariables false

def f130_0_sh : Shp := { n := 27, lo := 1, slots := [(1, .one (.fix (At.ptr 1 0 Off.z 16))), (2, .one (.fix (At.ptr 2 0 Off.z 16))), (3, .one (.int IntKind.u64)), (4, .one (.int IntKind.i64))], items := [(1, .obj [.ints IntKind.u64 16]), (2, .obj [.ints IntKind.u64 16])] }
def f130_0_ex1 : Shp := { n := 27, lo := 1, slots := [(7, .one (.bool)), (1, .one (.fix (At.ptr 1 0 Off.z 16))), (2, .one (.fix (At.ptr 2 0 Off.z 16))), (3, .one (.int IntKind.u64)), (4, .one (.int IntKind.i64))], items := [(1, .obj [.ints IntKind.u64 16]), (2, .obj [.ints IntKind.u64 16])] }
noncomputable def f130_0_st {R : Type} (N : Nat) (self : Int → Int → List Int → List Int → Option R) (k1 : Bool → Int → Int → List Int → List Int → Option R) (x1 : Int) (x2 : Int) (x3 : List Int) (x4 : List Int) : Option R :=
 bif Decidable.decide (x2 < 16) then
 bif Decidable.decide (0 ≤ x2) && Decidable.decide (x2 < 16) then
 bif Decidable.decide (0 ≤ x2) && Decidable.decide (x2 < 16) then
 let v0 : Int := IntKind.u64.wrap (x3.getD (mulE x2.toNat 1) 0 + 65536);
 let v1 : Int := IntKind.u64.wrap (v0 - pD x2);
 let v2 : Int := IntKind.u64.wrap (v1 - x1);
 let v3 : Int := IntKind.u64.wrap (v2.tdiv 65536);
 let v4 : Int := IntKind.u64.wrap (1 - v3);
 let v5 : Int := IntKind.i64.wrap (x2 + 1);
 let v6 : List Int := x3.set (mulE x2.toNat 1) (v2.tmod 65536);
 self v4 v5 v6 x4
 else Option.none
 else Option.none
else k1 (Decidable.decide (x2 < 16)) x1 x2 x3 x4
noncomputable def f130_0_lp {R : Type} (N : Nat) (k1 : Bool → Int → Int → List Int → List Int → Option R) : Nat → Int → Int → List Int → List Int → Option R
 | 0, _, _, _, _ => none
 | n + 1, x1, x2, x3, x4 => f130_0_st N (f130_0_lp N k1 n) k1 x1 x2 x3 x4
noncomputable def f130_0_F (N : Nat) : (R : Type) → List Leaf → (X → AS → Option R) → Option R := fun _ ls K => match ls with
 | [.i x1, .i x2, .l x3, .l x4] => f130_0_lp N (fun y1 y2 y3 y4 y5 => K (X.normal) (fill f130_0_ex1 [.b y1, .i y2, .i y3, .l y4, .l y5])) N x1 x2 x3 x4
 | _ => none
noncomputable def f130_raw {R : Type} (N : Nat) (x : List Int) (k : List DV → Option R) : Option R :=
 f130_0_lp N (fun w0_1 w0_2 w0_3 w0_4 w0_5 => k [DV.v (SV.one (At.ints IntKind.u64 16 w0_4))]) N 0 0 x (List.replicate 16 0)


noncomputable def E130 (N : Nat) : Env := { Θ := Th, Γ := HA, K := K130, ν := N130, fuel := 0, lp := [(0, mkL N130_0 f130_0_sh (f130_0_F N))] }

theorem f130_0_st_eq {R : Type} (N : Nat) (K : X → AS → Option R) (n : Nat) (x1 : Int) (x2 : Int) (x3 : List Int) (x4 : List Int) : roundsOf (E130 N) N130_0 0 B130_0 K (n + 1) (fill f130_0_sh [.i x1, .i x2, .l x3, .l x4]) = f130_0_st N (fun x1 x2 x3 x4 => roundsOf (E130 N) N130_0 0 B130_0 K n (fill f130_0_sh [.i x1, .i x2, .l x3, .l x4])) (fun y1 y2 y3 y4 y5 => K (X.normal) (fill f130_0_ex1 [.b y1, .i y2, .i y3, .l y4, .l y5])) x1 x2 x3 x4 := by kernel_rfl
theorem f130_0_lp_eq {R : Type} (N : Nat) (K : X → AS → Option R) : ∀ (n : Nat) (x1 : Int) (x2 : Int) (x3 : List Int) (x4 : List Int), roundsOf (E130 N) N130_0 0 B130_0 K n (fill f130_0_sh [.i x1, .i x2, .l x3, .l x4]) = f130_0_lp N (fun y1 y2 y3 y4 y5 => K (X.normal) (fill f130_0_ex1 [.b y1, .i y2, .i y3, .l y4, .l y5])) n x1 x2 x3 x4
  | 0, _, _, _, _ => rfl
  | n + 1, x1, x2, x3, x4 => by
    rw [f130_0_st_eq, f130_0_lp, show (fun x1 x2 x3 x4 => roundsOf (E130 N) N130_0 0 B130_0 K n (fill f130_0_sh [.i x1, .i x2, .l x3, .l x4])) = f130_0_lp N (fun y1 y2 y3 y4 y5 => K (X.normal) (fill f130_0_ex1 [.b y1, .i y2, .i y3, .l y4, .l y5])) n from by funext x1 x2 x3 x4; exact f130_0_lp_eq N K n x1 x2 x3 x4]
theorem f130_0_ok (N : Nat) (hlp : LoopsOk Try.prog (E130 N).lp B130_0) (hΓ : CtxOk Try.prog (E130 N).Γ) : LoopOk Try.prog (mkL N130_0 f130_0_sh (f130_0_F N)) 0 B130_0 := by
  refine loopOk_of (E := E130 N) thOk hΓ mixed hlp ?_
  intro R ls K r h
  unfold f130_0_F at h
  split at h
  · exact ⟨N, by rw [f130_0_lp_eq]; exact h⟩
  · cases h

theorem lok130_0 (N : Nat) (hΓ : CtxOk Try.prog HA) : LoopOk Try.prog (mkL N130_0 f130_0_sh (f130_0_F N)) 0 B130_0 := f130_0_ok N (loopsOk_of (l := []) (by kernel_rfl) trivial) hΓ
theorem f130_contract (N : Nat) (hΓ : CtxOk Try.prog HA) : Contract Try.prog 130 { sig := S130, impl := fun _ ds k => call (E130 N) S130 27 B130 R130 ds k } :=
  call_contract (E := E130 N) thOk hΓ mixed ok130.look ok130.body ok130.n ok130.rv ok130.name rfl (by decide) (loopsOk_of (l := [(0, B130_0)]) (by kernel_rfl) (allOk_cons (L := mkL N130_0 f130_0_sh (f130_0_F N)) rfl (lok130_0 N hΓ) trivial))
theorem f130_raw_eq {R : Type} (N : Nat) (x : List Int) (k : List DV → Option R) : call (E130 N) S130 27 B130 R130 [.v (.one (.ints .u64 16 x))] k = f130_raw N x k := by kernel_rfl
end Go.Proofs.Ytcgolglcjfknpaa

/- What rime/rimeref01.digits comes to. MADE BY PROGRAM (wip/tools/mkfn.py, EngGen.lean). -/
namespace Go.Proofs.Ytcgolglcjfknpaa
open Go Go.Eng
set_option maxRecDepth 100000
set_option linter.unusedVariables false

def f125_0_sh : Shp := { n := 37, lo := 1, slots := [(0, .one (.fix (At.own 0))), (3, .one (.fix (At.own 9))), (4, .one (.int IntKind.i64))], items := [(0, .view IntKind.u8 1), (9, .row IntKind.u64 1)] }
def f125_0_ex1 : Shp := { n := 37, lo := 1, slots := [(13, .one (.bool)), (0, .one (.fix (At.own 0))), (3, .one (.fix (At.own 9))), (4, .one (.int IntKind.i64))], items := [(0, .view IntKind.u8 1), (9, .row IntKind.u64 1)] }
noncomputable def f125_0_st {R : Type} (N : Nat) (self : Int → List Int → List Int → Option R) (k1 : Bool → Int → List Int → List Int → Option R) (x1 : Int) (x2 : List Int) (x3 : List Int) : Option R :=
 bif Decidable.decide (x1 < nI (rowLen 1 x2)) then
 let v0 : Int := IntKind.i64.wrap (x1.tdiv 2);
 bif Decidable.decide (0 ≤ v0) && Decidable.decide (v0 < nI (rowLen 1 x3)) then
 bif Decidable.decide (0 ≤ x1) && Decidable.decide (x1 < nI (rowLen 1 x2)) then
 let v1 : Int := IntKind.i64.wrap (8 * x1.tmod 2);
 let v2 : Int := IntKind.u64.wrap v1;
 bif Decidable.decide (0 ≤ v2) then
 bif Decidable.decide (0 ≤ v0) && Decidable.decide (v0 < nI (rowLen 1 x3)) then
 let v3 : Int := IntKind.i64.wrap (x1 + 1);
 let v4 : Int := IntKind.u64.wrap (x2.getD (mulE x1.toNat 1) 0);
 let v5 : Int := shlI IntKind.u64 v4 v2;
 let v6 : Int := IntKind.u64.wrap (x3.getD (mulE v0.toNat 1) 0 + v5);
 let v7 : List Int := x3.set (mulE v0.toNat 1) v6;
 self v3 x2 v7
 else Option.none
 else Option.none
 else Option.none
 else Option.none
else k1 (Decidable.decide (x1 < nI (rowLen 1 x2))) x1 x2 x3
noncomputable def f125_0_lp {R : Type} (N : Nat) (k1 : Bool → Int → List Int → List Int → Option R) : Nat → Int → List Int → List Int → Option R
 | 0, _, _, _ => none
 | n + 1, x1, x2, x3 => f125_0_st N (f125_0_lp N k1 n) k1 x1 x2 x3
noncomputable def f125_0_F (N : Nat) : (R : Type) → List Leaf → (X → AS → Option R) → Option R := fun _ ls K => match ls with
 | [.i x1, .l x2, .l x3] => f125_0_lp N (fun y1 y2 y3 y4 => K (X.normal) (fill f125_0_ex1 [.b y1, .i y2, .l y3, .l y4])) N x1 x2 x3
 | _ => none
noncomputable def f125_raw {R : Type} (N : Nat) (e : List Int) (k : List DV → Option R) : Option R :=
 let v0 : Int := IntKind.i64.wrap (nI (rowLen 1 e) + 1);
let v1 : Int := IntKind.i64.wrap (v0.tdiv 2);
bif Decidable.decide (0 ≤ v1) && (Decidable.decide (v1 ≤ v1) && (Decidable.decide (v1 ≤ 281474976710656) && Decidable.decide (v1 * 8 ≤ 281474976710656))) then f125_0_lp N (fun w2_1 w2_2 w2_3 w2_4 => k [DV.lst IntKind.u64 1 w2_4]) N 0 e (zerosOf (mulE v1.toNat 1)) else Option.none


noncomputable def E125 (N : Nat) : Env := { Θ := Th, Γ := [], K := K125, ν := N125, fuel := 0, lp := [(0, mkL N125_0 f125_0_sh (f125_0_F N))] }

theorem f125_0_st_eq {R : Type} (N : Nat) (K : X → AS → Option R) (n : Nat) (x1 : Int) (x2 : List Int) (x3 : List Int) : roundsOf (E125 N) N125_0 0 B125_0 K (n + 1) (fill f125_0_sh [.i x1, .l x2, .l x3]) = f125_0_st N (fun x1 x2 x3 => roundsOf (E125 N) N125_0 0 B125_0 K n (fill f125_0_sh [.i x1, .l x2, .l x3])) (fun y1 y2 y3 y4 => K (X.normal) (fill f125_0_ex1 [.b y1, .i y2, .l y3, .l y4])) x1 x2 x3 := by kernel_rfl
theorem f125_0_lp_eq {R : Type} (N : Nat) (K : X → AS → Option R) : ∀ (n : Nat) (x1 : Int) (x2 : List Int) (x3 : List Int), roundsOf (E125 N) N125_0 0 B125_0 K n (fill f125_0_sh [.i x1, .l x2, .l x3]) = f125_0_lp N (fun y1 y2 y3 y4 => K (X.normal) (fill f125_0_ex1 [.b y1, .i y2, .l y3, .l y4])) n x1 x2 x3
  | 0, _, _, _ => rfl
  | n + 1, x1, x2, x3 => by
    rw [f125_0_st_eq, f125_0_lp, show (fun x1 x2 x3 => roundsOf (E125 N) N125_0 0 B125_0 K n (fill f125_0_sh [.i x1, .l x2, .l x3])) = f125_0_lp N (fun y1 y2 y3 y4 => K (X.normal) (fill f125_0_ex1 [.b y1, .i y2, .l y3, .l y4])) n from by funext x1 x2 x3; exact f125_0_lp_eq N K n x1 x2 x3]
theorem f125_0_ok (N : Nat) (hlp : LoopsOk Try.prog (E125 N).lp B125_0) (hΓ : CtxOk Try.prog (E125 N).Γ) : LoopOk Try.prog (mkL N125_0 f125_0_sh (f125_0_F N)) 0 B125_0 := by
  refine loopOk_of (E := E125 N) thOk hΓ mixed hlp ?_
  intro R ls K r h
  unfold f125_0_F at h
  split at h
  · exact ⟨N, by rw [f125_0_lp_eq]; exact h⟩
  · cases h

theorem lok125_0 (N : Nat) (hΓ : CtxOk Try.prog []) : LoopOk Try.prog (mkL N125_0 f125_0_sh (f125_0_F N)) 0 B125_0 := f125_0_ok N (loopsOk_of (l := []) (by kernel_rfl) trivial) hΓ
theorem f125_contract (N : Nat) (hΓ : CtxOk Try.prog []) : Contract Try.prog 125 { sig := S125, impl := fun _ ds k => call (E125 N) S125 37 B125 R125 ds k } :=
  call_contract (E := E125 N) thOk hΓ mixed ok125.look ok125.body ok125.n ok125.rv ok125.name rfl (by decide) (loopsOk_of (l := [(0, B125_0)]) (by kernel_rfl) (allOk_cons (L := mkL N125_0 f125_0_sh (f125_0_F N)) rfl (lok125_0 N hΓ) trivial))
theorem f125_raw_eq {R : Type} (N : Nat) (e : List Int) (k : List DV → Option R) : call (E125 N) S125 37 B125 R125 [.lst .u8 1 e] k = f125_raw N e k := by kernel_rfl
end Go.Proofs.Ytcgolglcjfknpaa

/- Digits by school: differences with a borrow, carries. Plain numbers, no program. -/
namespace Go.Eng

theorem getD_mid {α : Type} {A B : List α} {x d : α} {i : Nat} (h : A.length = i) : (A ++ x :: B).getD i d = x := by
  subst h
  simp [List.getD_eq_getElem?_getD]
theorem set_mid {α : Type} {A B : List α} {x y : α} {i : Nat} (h : A.length = i) : (A ++ x :: B).set i y = A ++ y :: B := by
  subst h
  simp

theorem valB_cons (b x : Nat) (l : List Nat) : valB b (x :: l) = x + b * valB b l := rfl

/-- a difference, with a borrow -/
def subG : List Nat → List Nat → Nat → List Nat × Nat
  | x :: l, q :: m, b => ((x + 65536 - q - b) % 65536 :: (subG l m (1 - (x + 65536 - q - b) / 65536)).1, (subG l m (1 - (x + 65536 - q - b) / 65536)).2)
  | [], _, b => ([], b)
  | _ :: _, [], b => ([], b)

theorem subG_spec : ∀ (l m : List Nat) (b : Nat), l.length = m.length → (∀ x ∈ l, x < 65536) → (∀ x ∈ m, x < 65536) → b ≤ 1 →
    (subG l m b).1.length = l.length ∧ (∀ x ∈ (subG l m b).1, x < 65536) ∧ (subG l m b).2 ≤ 1 ∧ valB 65536 (subG l m b).1 + valB 65536 m + b = valB 65536 l + 65536 ^ l.length * (subG l m b).2
  | [], [], b, _, _, _, hb => by simp [subG, valB, hb]
  | [], _ :: _, _, h, _, _, _ => by simp at h
  | _ :: _, [], _, h, _, _, _ => by simp at h
  | x :: l, q :: m, b, h, hl, hm, hb => by
    have hx := hl x (.head _)
    have hq := hm q (.head _)
    obtain ⟨h1, h2, h3, h4⟩ := subG_spec l m (1 - (x + 65536 - q - b) / 65536) (by simpa using h) (fun y hy => hl y (.tail _ hy)) (fun y hy => hm y (.tail _ hy)) (by omega)
    simp only [subG]
    refine ⟨by simp [h1], ?_, h3, ?_⟩
    · intro y hy
      rcases List.mem_cons.1 hy with rfl | hy
      · exact Nat.mod_lt _ (by decide)
      · exact h2 y hy
    · simp only [valB_cons, List.length_cons, Nat.pow_succ]
      generalize valB 65536 (subG l m (1 - (x + 65536 - q - b) / 65536)).1 = R at *
      generalize (subG l m (1 - (x + 65536 - q - b) / 65536)).2 = c at *
      generalize valB 65536 l = L at *
      generalize valB 65536 m = M at *
      rw [Nat.mul_comm (65536 ^ l.length) 65536, Nat.mul_assoc]
      generalize 65536 ^ l.length * c = T at *
      omega

/-- carries -/
def normG : List Nat → Nat → List Nat × Nat
  | [], c => ([], c)
  | x :: l, c => ((x + c) % 65536 :: (normG l ((x + c) / 65536)).1, (normG l ((x + c) / 65536)).2)

theorem normG_spec : ∀ (l : List Nat) (c : Nat), (normG l c).1.length = l.length ∧ (∀ x ∈ (normG l c).1, x < 65536) ∧ valB 65536 (normG l c).1 + 65536 ^ l.length * (normG l c).2 = valB 65536 l + c
  | [], c => by simp [normG, valB]
  | x :: l, c => by
    obtain ⟨h1, h2, h3⟩ := normG_spec l ((x + c) / 65536)
    simp only [normG]
    refine ⟨by simp [h1], ?_, ?_⟩
    · intro y hy
      rcases List.mem_cons.1 hy with rfl | hy
      · exact Nat.mod_lt _ (by decide)
      · exact h2 y hy
    · simp only [valB_cons, List.length_cons, Nat.pow_succ]
      generalize valB 65536 (normG l ((x + c) / 65536)).1 = R at *
      generalize (normG l ((x + c) / 65536)).2 = d at *
      generalize valB 65536 l = L at *
      rw [Nat.mul_comm (65536 ^ l.length) 65536, Nat.mul_assoc]
      generalize 65536 ^ l.length * d = T at *
      omega

theorem normG_carry : ∀ (l : List Nat) (c : Nat), (∀ x ∈ l, x < 2 ^ 46) → c < 2 ^ 46 → l ≠ [] → (normG l c).2 < 2 ^ 31
  | [], c, _, _, h => absurd rfl h
  | [x], c, hl, hc, _ => by
    have := hl x (.head _)
    simp only [normG]
    omega
  | x :: y :: l, c, hl, hc, _ => by
    have := hl x (.head _)
    show (normG (y :: l) ((x + c) / 65536)).2 < 2 ^ 31
    exact normG_carry (y :: l) _ (fun z hz => hl z (.tail _ hz)) (by omega) (by simp)

/-- one turn: carries; what comes out at the end comes in again, 38 times -/
def turnG (l : List Nat) : List Nat := match (normG l 0).1 with
  | [] => []
  | x :: r => (x + 38 * (normG l 0).2) :: r

theorem turnG_val {l : List Nat} (h : l ≠ []) : valB 65536 (turnG l) + 65536 ^ l.length * (normG l 0).2 = valB 65536 l + 38 * (normG l 0).2 := by
  obtain ⟨h1, _, h3⟩ := normG_spec l 0
  unfold turnG
  cases hn : (normG l 0).1 with
  | nil => rw [hn] at h1; simp at h1; exact absurd h1.symm (fun e => h (List.eq_nil_of_length_eq_zero e.symm.symm))
  | cons x r =>
    rw [hn] at h3
    simp only [valB_cons] at *
    omega
theorem turnG_length (l : List Nat) : (turnG l).length = l.length := by
  obtain ⟨h1, _⟩ := normG_spec l 0
  unfold turnG
  cases hn : (normG l 0).1 with
  | nil => rw [hn] at h1; simpa using h1
  | cons x r => rw [hn] at h1; simpa using h1
theorem turnG_lt {l : List Nat} (hl : ∀ x ∈ l, x < 2 ^ 46) : ∀ x ∈ turnG l, x < 2 ^ 46 := by
  obtain ⟨h1, h2, _⟩ := normG_spec l 0
  unfold turnG
  cases hn : (normG l 0).1 with
  | nil => simp
  | cons x r =>
    rw [hn] at h1 h2
    have hc := normG_carry l 0 hl (by decide) (fun e => by rw [e] at h1; simp at h1)
    intro y hy
    rcases List.mem_cons.1 hy with rfl | hy
    · have := h2 x (.head _); omega
    · have := h2 y (.tail _ hy); omega
/-- what is small enough is only put in order -/
theorem turnG_ok {l : List Nat} (hl : valB 65536 l < 65536 ^ l.length) (hn : l ≠ []) : valB 65536 (turnG l) = valB 65536 l ∧ ∀ x ∈ turnG l, x < 65536 := by
  obtain ⟨h1, h2, h3⟩ := normG_spec l 0
  have hc : (normG l 0).2 = 0 := by
    cases hc : (normG l 0).2 with
    | zero => rfl
    | succ c =>
      rw [hc, Nat.mul_succ] at h3
      omega
  have hv := turnG_val hn
  rw [hc] at hv
  refine ⟨by omega, ?_⟩
  unfold turnG
  cases hn : (normG l 0).1 with
  | nil => simp
  | cons x r =>
    rw [hn] at h2
    intro y hy
    rw [hc] at hy
    exact h2 y (by simpa using hy)

end Go.Eng

/- The document's numbers, sixteen digits: at least p, less p. -/
namespace Go.Proofs.Ytcgolglcjfknpaa
open Go Go.Eng
set_option maxRecDepth 100000
set_option linter.unusedVariables false

def pDl : List Nat := digs 65536 16 p25519
theorem pD_get : ∀ i : Nat, i < 16 → pD (i : Int) = ((pDl.getD i 0 : Nat) : Int) := by decide
theorem pDl_len : pDl.length = 16 := digs_length _ _ _
theorem pDl_lt : ∀ x ∈ pDl, x < 65536 := digs_lt (by decide)
theorem pDl_val : valB 65536 pDl = p25519 := by decide
theorem pDl_split {i : Nat} (hi : i < 16) : pDl.drop i = pDl.getD i 0 :: pDl.drop (i + 1) := by
  rw [List.getD_eq_getElem?_getD, List.getElem?_eq_getElem (by rw [pDl_len]; exact hi), Option.getD_some]
  exact List.drop_eq_getElem_cons _
theorem pDl_getlt (i : Nat) : pDl.getD i 0 < 65536 := nats_digs_bound (by decide) i
theorem ngetD {A B : List Nat} {x : Nat} : (nats (A ++ x :: B)).getD (mulE (Int.toNat (A.length : Int)) 1) 0 = (x : Int) := by
  rw [show mulE (Int.toNat (A.length : Int)) 1 = A.length from rfl, nats_getD, getD_mid rfl]
theorem nset {A B : List Nat} {x : Nat} (y : Nat) : (nats (A ++ x :: B)).set (mulE (Int.toNat (A.length : Int)) 1) (y : Int) = nats (A ++ y :: B) := by
  rw [show mulE (Int.toNat (A.length : Int)) 1 = A.length from rfl, nats_set, set_mid rfl]
theorem app_cons {α : Type} (A B : List α) (y : α) : A ++ y :: B = (A ++ [y]) ++ B := by simp
theorem app_len {α : Type} (A : List α) (y : α) : (A ++ [y]).length = A.length + 1 := by simp

theorem f130_in {R : Type} (N : Nat) (k1 : Bool → Int → Int → List Int → List Int → Option R) (z : List Int) :
    ∀ (B A : List Nat) (b : Nat), A.length + B.length = 16 → (∀ x ∈ B, x < 65536) → b ≤ 1 → ∀ fuel, B.length < fuel →
      f130_0_lp N k1 fuel (b : Int) (A.length : Int) (nats (A ++ B)) z = k1 false ((subG B (pDl.drop A.length) b).2 : Int) 16 (nats (A ++ (subG B (pDl.drop A.length) b).1)) z := by
  intro B
  induction B with
  | nil =>
    intro A b hA _ hb fuel hf
    obtain ⟨f, rfl⟩ : ∃ f, fuel = f + 1 := ⟨fuel - 1, by omega⟩
    have hl : A.length = 16 := by simpa using hA
    show f130_0_st N (f130_0_lp N k1 f) k1 _ _ _ _ = _
    unfold f130_0_st
    rw [hl]
    rfl
  | cons x B ih =>
    intro A b hA hB hb fuel hf
    obtain ⟨f, rfl⟩ : ∃ f, fuel = f + 1 := ⟨fuel - 1, by omega⟩
    rw [List.length_cons] at hA hf
    have hi : A.length < 16 := by omega
    have hx := hB x (.head _)
    have hq := pDl_getlt A.length
    show f130_0_st N (f130_0_lp N k1 f) k1 _ _ _ _ = _
    unfold f130_0_st
    rw [decide_eq_true (show (A.length : Int) < 16 by omega), decide_eq_true (show 0 ≤ (A.length : Int) by omega), cond_true, Bool.and_self, cond_true, cond_true]
    dsimp only
    rw [ngetD, pD_get _ hi, pDl_split hi]
    generalize pDl.getD A.length 0 = q at hq
    rw [show IntKind.u64.wrap ((x : Int) + 65536) = ((x + 65536 : Nat) : Int) from w64 (n := x + 65536) (by omega)]
    rw [show ((x + 65536 : Nat) : Int) - (q : Int) = ((x + 65536 - q : Nat) : Int) by omega, w64 (n := x + 65536 - q) (by omega)]
    rw [show ((x + 65536 - q : Nat) : Int) - (b : Int) = ((x + 65536 - q - b : Nat) : Int) by omega, w64 (n := x + 65536 - q - b) (by omega)]
    have hv : x + 65536 - q - b < 131072 := by omega
    simp only [subG]
    generalize x + 65536 - q - b = v at hv
    rw [show ((v : Int).tdiv 65536) = ((v / 65536 : Nat) : Int) from rfl, w64 (n := v / 65536) (by omega), show (1 : Int) - ((v / 65536 : Nat) : Int) = ((1 - v / 65536 : Nat) : Int) by omega, w64 (n := 1 - v / 65536) (by omega)]
    rw [show ((v : Int).tmod 65536) = ((v % 65536 : Nat) : Int) from rfl, nset, wrapI (a := (A.length : Int) + 1) (by omega) (by omega)]
    have := ih (A ++ [v % 65536]) (1 - v / 65536) (by rw [app_len]; omega) (fun y hy => hB y (.tail _ hy)) (by omega) f (by omega)
    rw [app_len, ← app_cons, show ((A.length + 1 : Nat) : Int) = (A.length : Int) + 1 from rfl, ← app_cons] at this
    exact this

/-! ### sixteen digits -/
def okD (x : List Int) : Bool := decide (x.length = 16) && x.all (fun b => decide (0 ≤ b) && decide (b < 65536))
def numD (x : List Int) : Nat := valB 65536 (x.map Int.toNat)
theorem okD_of {x : List Int} (h : okD x = true) : ∃ l : List Nat, x = nats l ∧ l.length = 16 ∧ ∀ b ∈ l, b < 65536 := by
  unfold okD at h
  rw [Bool.and_eq_true, List.all_eq_true] at h
  obtain ⟨h1, h2⟩ := h
  have h3 : ∀ b ∈ x, 0 ≤ b ∧ b < 65536 := fun b hb => by
    have := h2 b hb
    rw [Bool.and_eq_true] at this
    exact ⟨of_decide_eq_true this.1, of_decide_eq_true this.2⟩
  obtain ⟨l, rfl⟩ := nats_of (xs := x) fun b hb => (h3 b hb).1
  exact ⟨l, rfl, by rw [← nats_length]; exact of_decide_eq_true h1, fun b hb => Int.ofNat_lt.mp (h3 b (List.mem_map.mpr ⟨b, hb, rfl⟩)).2⟩
theorem okD_nats {l : List Nat} (hl : l.length = 16) (h : ∀ b ∈ l, b < 65536) : okD (nats l) = true := by
  unfold okD
  rw [nats_length, decide_eq_true hl, Bool.true_and, List.all_eq_true]
  intro b hb
  unfold nats at hb
  obtain ⟨n, hn, rfl⟩ := List.mem_map.mp hb
  have := h n hn
  rw [Bool.and_eq_true]
  exact ⟨decide_eq_true (Int.natCast_nonneg n), decide_eq_true (Int.ofNat_lt.mpr this)⟩
theorem numD_nats (l : List Nat) : numD (nats l) = valB 65536 l := by unfold numD; rw [nats_toNat]
/-- the sixteen digits of a number -/
noncomputable def refN : Nat → List Int := (stk fun v => nats (digs 65536 16 v)).1
theorem refN_def (v : Nat) : refN v = nats (digs 65536 16 v) := congrFun (stk fun v => nats (digs 65536 16 v)).2 v
theorem okD_refN (v : Nat) : okD (refN v) = true := by rw [refN_def]; exact okD_nats (digs_length _ _ _) (digs_lt (by decide))
theorem numD_refN {v : Nat} (h : v < 2 ^ 256) : numD (refN v) = v := by
  rw [refN_def, numD_nats, digs_val, Nat.mod_eq_of_lt (Nat.lt_of_lt_of_le h (by decide))]
theorem numD_lt {x : List Int} (h : okD x = true) : numD x < 2 ^ 256 := by
  obtain ⟨l, rfl, hl, hb⟩ := okD_of h
  rw [numD_nats]
  have := valB_lt (b := 65536) (by decide) hb
  rw [hl] at this
  exact Nat.lt_of_lt_of_le this (by decide)
theorem nats_refN {l : List Nat} (hl : l.length = 16) (h : ∀ b ∈ l, b < 65536) : nats l = refN (valB 65536 l) := by
  rw [refN_def, ← hl, digs_of (by decide) h]
theorem refN_numD {x : List Int} (h : okD x = true) : refN (numD x) = x := by
  obtain ⟨l, rfl, hl, hb⟩ := okD_of h
  rw [numD_nats, ← nats_refN hl hb]
theorem refN_inj {a b : Nat} (ha : a < 2 ^ 256) (hb : b < 2 ^ 256) : (refN a = refN b) = (a = b) := by
  refine propext ⟨fun h => ?_, fun h => by rw [h]⟩
  have := congrArg numD h
  rwa [numD_refN ha, numD_refN hb] at this

/-! ### at least p -/
theorem cmp_aux {P a b x q S : Nat} (ha : a < P) (hb : b < P) (h : x ≠ q) : decide (b + P * (q + S) ≤ a + P * (x + S)) = decide (x > q) := by
  refine decide_eq_decide.mpr ⟨fun h1 => ?_, fun h1 => ?_⟩
  · apply Nat.lt_of_not_le
    intro h2
    have : P * (x + S + 1) ≤ P * (q + S) := Nat.mul_le_mul_left P (by omega)
    rw [Nat.mul_add, Nat.mul_one] at this
    omega
  · have : P * (q + S + 1) ≤ P * (x + S) := Nat.mul_le_mul_left P (by omega)
    rw [Nat.mul_add, Nat.mul_one] at this
    omega
theorem val_split (l : List Nat) {m : Nat} (h : m < l.length) : valB 65536 l = valB 65536 (l.take m) + 65536 ^ m * (l.getD m 0 + 65536 * valB 65536 (l.drop (m + 1))) := by
  conv => lhs; rw [← List.take_append_drop m l]
  rw [valB_append, List.length_take, Nat.min_eq_left (by omega), List.drop_eq_getElem_cons h, valB_cons, List.getD_eq_getElem?_getD, List.getElem?_eq_getElem h]; rfl
theorem take_val_lt {l : List Nat} {m : Nat} (hm : m ≤ l.length) (h : ∀ x ∈ l, x < 65536) : valB 65536 (l.take m) < 65536 ^ m := by
  have := valB_lt (b := 65536) (by decide) (l := l.take m) fun x hx => h x (List.mem_of_mem_take hx)
  rwa [List.length_take, Nat.min_eq_left hm] at this
theorem f129_in {R : Type} (N : Nat) (g : Bool → Option R) {d : List Nat} (hl : d.length = 16) (hd : ∀ x ∈ d, x < 65536) :
    ∀ m : Nat, m ≤ 16 → d.drop m = pDl.drop m → ∀ fuel, m < fuel → f129_0_lp N (fun w _ _ _ _ => g w) (fun _ _ _ => g true) fuel ((m : Int) - 1) (nats d) = g (decide (p25519 ≤ valB 65536 d)) := by
  intro m
  induction m with
  | zero =>
    intro _ he fuel hf
    obtain ⟨f, rfl⟩ : ∃ f, fuel = f + 1 := ⟨fuel - 1, by omega⟩
    rw [List.drop_zero, List.drop_zero] at he
    rw [he, pDl_val, decide_eq_true (Nat.le_refl _)]
    rfl
  | succ m ih =>
    intro hm he fuel hf
    obtain ⟨f, rfl⟩ : ∃ f, fuel = f + 1 := ⟨fuel - 1, by omega⟩
    show f129_0_st N (f129_0_lp N _ _ f) _ _ _ _ = _
    rw [show ((m + 1 : Nat) : Int) - 1 = (m : Int) by omega]
    unfold f129_0_st
    rw [decide_eq_true (show (m : Int) ≥ 0 by omega), decide_eq_true (show (m : Int) < 16 by omega)]
    simp only [Bool.and_self, cond_true]
    rw [show (nats d).getD (mulE (Int.toNat (m : Int)) 1) 0 = ((d.getD m 0 : Nat) : Int) from nats_getD d m, pD_get m (by omega)]
    have hs := val_split d (m := m) (by omega)
    have hp := val_split pDl (m := m) (by rw [pDl_len]; omega)
    by_cases h : d.getD m 0 = pDl.getD m 0
    · rw [h, show ((((pDl.getD m 0 : Nat) : Int)) != ((pDl.getD m 0 : Nat) : Int)) = false by simp, cond_false, wrapI (by omega) (by omega)]
      refine ih (by omega) ?_ f (by omega)
      rw [pDl_split (show m < 16 by omega), List.drop_eq_getElem_cons (show m < d.length by omega), he, ← h, List.getD_eq_getElem?_getD, List.getElem?_eq_getElem (show m < d.length by omega), Option.getD_some]
    · rw [show ((((d.getD m 0 : Nat) : Int)) != ((pDl.getD m 0 : Nat) : Int)) = true by rw [bne_iff_ne]; omega, cond_true]
      refine congrArg g ?_
      rw [hs, ← pDl_val, hp, he, cmp_aux (take_val_lt (by omega) hd) (take_val_lt (by rw [pDl_len]; omega) pDl_lt) h]
      exact decide_eq_decide.mpr (by omega)
noncomputable def I129 : (R : Type) → List DV → (List DV → Option R) → Option R := fun _ ds k => match ds with
  | [.v (.one (.ints .u64 16 x))] => bif okD x then k [.v (.one (.bool (decide (p25519 ≤ numD x))))] else none
  | _ => none
theorem c129 : Contract Try.prog 129 { sig := S129, impl := I129 } := by
  refine Contract.refine fun R ds k r h => ⟨_, f129_contract 17 HA_ok, ?_⟩
  unfold I129 at h
  split at h
  · rename_i x
    rcases hc : okD x with _ | _
    · rw [hc] at h; cases h
    · rw [hc, cond_true] at h
      rw [f129_raw_eq]
      obtain ⟨l, rfl, hl, hb⟩ := okD_of hc
      rw [numD_nats] at h
      rw [← h]
      exact f129_in 17 (fun b => k [.v (.one (.bool b))]) hl hb 16 (Nat.le_refl _) (by rw [List.drop_of_length_le (by omega), List.drop_of_length_le (by rw [pDl_len]; omega)]) 17 (by decide)
  · cases h

/-! ### less p -/
theorem sub_fit {l m : List Nat} (h : l.length = m.length) (hl : ∀ x ∈ l, x < 65536) (hm : ∀ x ∈ m, x < 65536) (hle : valB 65536 m ≤ valB 65536 l) :
    (subG l m 0).1.length = l.length ∧ (∀ x ∈ (subG l m 0).1, x < 65536) ∧ valB 65536 (subG l m 0).1 = valB 65536 l - valB 65536 m := by
  obtain ⟨h1, h2, h3, h4⟩ := subG_spec l m 0 h hl hm (by decide)
  refine ⟨h1, h2, ?_⟩
  have hr := valB_lt (b := 65536) (by decide) h2
  rw [h1] at hr
  have : (subG l m 0).2 = 0 := by
    cases hc : (subG l m 0).2 with
    | zero => rfl
    | succ c =>
      rw [hc, Nat.mul_succ] at h4
      omega
  rw [this, Nat.mul_zero] at h4
  omega
noncomputable def I130 : (R : Type) → List DV → (List DV → Option R) → Option R := fun _ ds k => match ds with
  | [.v (.one (.ints .u64 16 x))] => bif okD x && decide (p25519 ≤ numD x) then k [.v (.one (.ints .u64 16 (refN (numD x - p25519))))] else none
  | _ => none
theorem c130 : Contract Try.prog 130 { sig := S130, impl := I130 } := by
  refine Contract.refine fun R ds k r h => ⟨_, f130_contract 17 HA_ok, ?_⟩
  unfold I130 at h
  split at h
  · rename_i x
    rcases hc : okD x && decide (p25519 ≤ numD x) with _ | _
    · rw [hc] at h; cases h
    · rw [hc, cond_true] at h
      rw [Bool.and_eq_true, decide_eq_true_eq] at hc
      rw [f130_raw_eq]
      obtain ⟨l, rfl, hl, hb⟩ := okD_of hc.1
      have hle := hc.2
      rw [numD_nats] at h hle
      rw [← h]
      have := f130_in 17 (fun _ _ _ w _ => k [.v (.one (.ints .u64 16 w))]) (List.replicate 16 0) l [] 0 (by simpa using hl) hb (by decide) 17 (by omega)
      refine Eq.trans this ?_
      obtain ⟨g1, g2, g3⟩ := sub_fit (l := l) (m := pDl) (by rw [hl, pDl_len]) hb pDl_lt (by rw [pDl_val]; exact hle)
      show k [.v (.one (.ints .u64 16 (nats (subG l pDl 0).1)))] = _
      rw [nats_refN (by rw [g1, hl]) g2, g3, pDl_val]
  · cases h

/-! ### digits of bytes -/
theorem digs_add : ∀ (m n i x : Nat), n < 256 ^ i → i < 2 * m → x < 256 → digs 65536 m (n + x * 256 ^ i) = (digs 65536 m n).set (i / 2) ((digs 65536 m n).getD (i / 2) 0 + x * 256 ^ (i % 2))
  | 0, _, _, _, _, h, _ => by omega
  | m + 1, n, 0, x, hn, _, hx => by
    simp only [digs, List.set_cons_zero, List.getD_cons_zero, Nat.zero_div, Nat.zero_mod, Nat.pow_zero, Nat.mul_one] at *
    rw [show n = 0 by omega, Nat.zero_add, Nat.mod_eq_of_lt (show x < 65536 by omega), Nat.div_eq_of_lt (show x < 65536 by omega)]
  | m + 1, n, 1, x, hn, _, hx => by
    simp only [digs, List.set_cons_zero, List.getD_cons_zero, show (1 : Nat) / 2 = 0 from rfl, show (1 : Nat) % 2 = 1 from rfl, Nat.pow_one] at *
    rw [Nat.mod_eq_of_lt (show n + x * 256 < 65536 by omega), Nat.div_eq_of_lt (show n + x * 256 < 65536 by omega), Nat.mod_eq_of_lt (show n < 65536 by omega), Nat.div_eq_of_lt (show n < 65536 by omega)]
  | m + 1, n, i + 2, x, hn, hi, hx => by
    rw [show (i + 2) / 2 = i / 2 + 1 by omega, show (i + 2) % 2 = i % 2 by omega]
    have e : x * 256 ^ (i + 2) = x * 256 ^ i * 65536 := by rw [Nat.pow_succ, Nat.pow_succ, Nat.mul_assoc, Nat.mul_assoc]
    simp only [digs, List.set_cons_succ, List.getD_cons_succ]
    rw [e, Nat.add_mul_mod_self_right, Nat.add_mul_div_right _ _ (by decide)]
    rw [digs_add m (n / 65536) i x (by rw [Nat.pow_succ, Nat.pow_succ, Nat.mul_assoc] at hn; exact Nat.div_lt_of_lt_mul (by omega)) (by omega) hx]
theorem take_val (l : List Nat) {i : Nat} (h : i < l.length) : valB 256 (l.take (i + 1)) = valB 256 (l.take i) + l.getD i 0 * 256 ^ i := by
  rw [List.take_add_one, List.getElem?_eq_getElem h, Option.toList_some, valB_append, List.length_take, Nat.min_eq_left (by omega), List.getD_eq_getElem?_getD, List.getElem?_eq_getElem h, Option.getD_some]
  simp only [valB, Nat.mul_zero, Nat.add_zero]
  rw [Nat.mul_comm]
theorem f125_in {R : Type} (N : Nat) (k1 : Bool → Int → List Int → List Int → Option R) {l : List Nat} (hl : l.length ≤ 1000000) (hb : ∀ x ∈ l, x < 256) :
    ∀ j i : Nat, i + j = l.length → ∀ fuel, j < fuel → f125_0_lp N k1 fuel (i : Int) (nats l) (nats (digs 65536 ((l.length + 1) / 2) (valB 256 (l.take i)))) = k1 false (l.length : Int) (nats l) (nats (digs 65536 ((l.length + 1) / 2) (valB 256 l))) := by
  intro j
  induction j with
  | zero =>
    intro i hi fuel hf
    obtain ⟨f, rfl⟩ : ∃ f, fuel = f + 1 := ⟨fuel - 1, by omega⟩
    have : i = l.length := by omega
    subst this
    show f125_0_st N (f125_0_lp N k1 f) k1 _ _ _ = _
    unfold f125_0_st
    rw [show nI (rowLen 1 (nats l)) = (l.length : Int) from by show (((nats l).length : Nat) : Int) = _; rw [nats_length], decide_eq_false (by omega), cond_false, List.take_length]
  | succ j ih =>
    intro i hi fuel hf
    obtain ⟨f, rfl⟩ : ∃ f, fuel = f + 1 := ⟨fuel - 1, by omega⟩
    have hx : l.getD i 0 < 256 := by
      rw [List.getD_eq_getElem?_getD, List.getElem?_eq_getElem (by omega)]; exact hb _ (List.getElem_mem _)
    have hlen : i < l.length := by omega
    show f125_0_st N (f125_0_lp N k1 f) k1 _ _ _ = _
    unfold f125_0_st
    rw [show nI (rowLen 1 (nats l)) = (l.length : Int) from by show (((nats l).length : Nat) : Int) = _; rw [nats_length], show nI (rowLen 1 (nats (digs 65536 ((l.length + 1) / 2) (valB 256 (l.take i))))) = (((l.length + 1) / 2 : Nat) : Int) from by show (((nats _).length : Nat) : Int) = _; rw [nats_length, digs_length]]
    rw [show ((i : Int).tdiv 2) = ((i / 2 : Nat) : Int) from rfl, show ((i : Int).tmod 2) = ((i % 2 : Nat) : Int) from rfl]
    dsimp only
    rw [wrapI (a := ((i / 2 : Nat) : Int)) (by omega) (by omega), wrapI (a := 8 * ((i % 2 : Nat) : Int)) (by omega) (by omega), wrapI (a := (i : Int) + 1) (by omega) (by omega), show (8 * ((i % 2 : Nat) : Int)) = ((8 * (i % 2) : Nat) : Int) by omega, w64 (n := 8 * (i % 2)) (by omega)]
    rw [decide_eq_true (show (i : Int) < (l.length : Int) by omega), decide_eq_true (show 0 ≤ ((i / 2 : Nat) : Int) by omega), decide_eq_true (show ((i / 2 : Nat) : Int) < (((l.length + 1) / 2 : Nat) : Int) by omega), decide_eq_true (show 0 ≤ (i : Int) by omega), decide_eq_true (show 0 ≤ ((8 * (i % 2) : Nat) : Int) by omega)]
    simp only [Bool.and_self, cond_true]
    rw [show (nats l).getD (mulE (Int.toNat (i : Int)) 1) 0 = ((l.getD i 0 : Nat) : Int) from nats_getD l i, w64 (n := l.getD i 0) (by omega)]
    rw [show mulE (Int.toNat ((i / 2 : Nat) : Int)) 1 = i / 2 from rfl, nats_getD, shlN (k := .u64) rfl (m := 8 * (i % 2)) (show _ ≤ 64 by omega)]
    have hg : (digs 65536 ((l.length + 1) / 2) (valB 256 (l.take i))).getD (i / 2) 0 < 65536 := nats_digs_bound (by decide) _
    have hsh : l.getD i 0 * 2 ^ (8 * (i % 2)) % 2 ^ IntKind.u64.bits = l.getD i 0 * 256 ^ (i % 2) := by
      show l.getD i 0 * 2 ^ (8 * (i % 2)) % 18446744073709551616 = _
      rcases Nat.mod_two_eq_zero_or_one i with h | h <;> rw [h] <;> omega
    have hlt : l.getD i 0 * 256 ^ (i % 2) < 65536 := by
      rcases Nat.mod_two_eq_zero_or_one i with h | h <;> rw [h] <;> omega
    rw [hsh]
    rw [show (((digs 65536 ((l.length + 1) / 2) (valB 256 (l.take i))).getD (i / 2) 0 : Nat) : Int) + ((l.getD i 0 * 256 ^ (i % 2) : Nat) : Int) = (((digs 65536 ((l.length + 1) / 2) (valB 256 (l.take i))).getD (i / 2) 0 + l.getD i 0 * 256 ^ (i % 2) : Nat) : Int) from rfl, w64 (by omega), nats_set]
    have htl : valB 256 (l.take i) < 256 ^ i := by
      have := valB_lt (b := 256) (by decide) (l := l.take i) fun x hx => hb x (List.mem_of_mem_take hx)
      rwa [List.length_take, Nat.min_eq_left (by omega)] at this
    rw [← digs_add _ _ _ _ htl (by omega) hx, ← take_val l hlen]
    exact ih (i + 1) (by omega) f (by omega)
noncomputable def digL : List Int → List Int := (stk fun e => nats (digs 65536 ((e.length + 1) / 2) (numB e))).1
theorem digL_def (e : List Int) : digL e = nats (digs 65536 ((e.length + 1) / 2) (numB e)) := congrFun (stk fun e : List Int => nats (digs 65536 ((e.length + 1) / 2) (numB e))).2 e
noncomputable def I125 : (R : Type) → List DV → (List DV → Option R) → Option R := fun _ ds k => match ds with
  | [.lst .u8 1 e] => bif okE e && decide (e.length ≤ 1000000) then k [.lst .u64 1 (digL e)] else none
  | _ => none
theorem digs_zero (b : Nat) : ∀ m, digs b m 0 = List.replicate m 0
  | 0 => rfl
  | m + 1 => by rw [digs, Nat.zero_mod, Nat.zero_div, digs_zero b m]; rfl
theorem nats_zeros (m : Nat) : nats (List.replicate m 0) = zerosOf m := by unfold nats zerosOf; rw [List.map_replicate]; rfl
theorem c125 : Contract Try.prog 125 { sig := S125, impl := I125 } := by
  refine Contract.refine fun R ds k r h => ?_
  unfold I125 at h
  split at h
  · rename_i e
    rcases hc : okE e && decide (e.length ≤ 1000000) with _ | _
    · rw [hc] at h; cases h
    · rw [hc, cond_true] at h
      rw [Bool.and_eq_true, decide_eq_true_eq] at hc
      refine ⟨_, f125_contract (e.length + 1) ctxOk_nil, ?_⟩
      rw [f125_raw_eq]
      obtain ⟨_, l, rfl, hb⟩ := okE_of hc.1
      have hl := hc.2
      rw [nats_length] at hl
      rw [digL_def, numB_nats, nats_length] at h
      rw [← h]
      unfold f125_raw
      rw [show nI (rowLen 1 (nats l)) = (l.length : Int) from by show (((nats l).length : Nat) : Int) = _; rw [nats_length]]
      dsimp only
      rw [wrapI (a := (l.length : Int) + 1) (by omega) (by omega), show ((l.length : Int) + 1).tdiv 2 = (((l.length + 1) / 2 : Nat) : Int) from rfl, wrapI (by omega) (by omega)]
      rw [decide_eq_true (show 0 ≤ (((l.length + 1) / 2 : Nat) : Int) by omega), decide_eq_true (show (((l.length + 1) / 2 : Nat) : Int) ≤ (((l.length + 1) / 2 : Nat) : Int) by omega), decide_eq_true (show (((l.length + 1) / 2 : Nat) : Int) ≤ 281474976710656 by omega), decide_eq_true (show (((l.length + 1) / 2 : Nat) : Int) * 8 ≤ 281474976710656 by omega)]
      simp only [Bool.and_self, cond_true]
      have := f125_in ((nats l).length + 1) (fun _ _ _ w => k [.lst .u64 1 w]) hl hb l.length 0 (by omega) ((nats l).length + 1) (by rw [nats_length]; omega)
      rw [List.take_zero, show valB 256 ([] : List Nat) = 0 from rfl, digs_zero, nats_zeros] at this
      exact this
  · cases h
end Go.Proofs.Ytcgolglcjfknpaa

/- Context of the document's numbers. -/
namespace Go.Proofs.Ytcgolglcjfknpaa
open Go Go.Eng
set_option maxRecDepth 100000
noncomputable def HB : Ctx := [(128, { sig := S128, impl := I128 }), (129, { sig := S129, impl := I129 }), (130, { sig := S130, impl := I130 }), (125, { sig := S125, impl := I125 })]
theorem HB_ok : CtxOk Try.prog HB := ctxOk_cons ok128 rfl c128 (ctxOk_cons ok129 rfl c129 (ctxOk_cons ok130 rfl c130 (ctxOk_cons ok125 rfl c125 ctxOk_nil)))
end Go.Proofs.Ytcgolglcjfknpaa

/- What rime/rimeref01.mod comes to. MADE BY PROGRAM (wip/tools/mkfn.py, EngGen.lean). -/
namespace Go.Proofs.Ytcgolglcjfknpaa
open Go Go.Eng
set_option maxRecDepth 100000
set_option linter.unusedVariables false

def f124_2_sh : Shp := { n := 100, lo := 1, slots := [(0, .one (.fix (At.own 0))), (2, .one (.fix (At.ptr 2 0 Off.z 16))), (6, .one (.fix (At.ptr 6 0 Off.z 16))), (7, .one (.int IntKind.i64))], items := [(0, .view IntKind.u64 1), (2, .obj [.ints IntKind.u64 16]), (6, .obj [.ints IntKind.u64 16])] }
def f124_2_ex1 : Shp := { n := 100, lo := 1, slots := [(42, .one (.bool)), (0, .one (.fix (At.own 0))), (2, .one (.fix (At.ptr 2 0 Off.z 16))), (6, .one (.fix (At.ptr 6 0 Off.z 16))), (7, .one (.int IntKind.i64))], items := [(0, .view IntKind.u64 1), (2, .obj [.ints IntKind.u64 16]), (6, .obj [.ints IntKind.u64 16])] }
noncomputable def f124_2_st {R : Type} (N : Nat) (self : Int → List Int → List Int → List Int → Option R) (k1 : Bool → Int → List Int → List Int → List Int → Option R) (x1 : Int) (x2 : List Int) (x3 : List Int) (x4 : List Int) : Option R :=
 bif Decidable.decide (x1 < nI (rowLen 1 x2)) then
 bif Decidable.decide (x1 < 16) then
 bif Decidable.decide (0 ≤ x1) && Decidable.decide (x1 < 16) then
 bif Decidable.decide (0 ≤ x1) && Decidable.decide (x1 < nI (rowLen 1 x2)) then
 bif Decidable.decide (0 ≤ x1) && Decidable.decide (x1 < 16) then
 let v0 : Int := IntKind.i64.wrap (x1 + 1);
 let v1 : Int := IntKind.u64.wrap (x4.getD (mulE x1.toNat 1) 0 + x2.getD (mulE x1.toNat 1) 0);
 let v2 : List Int := x4.set (mulE x1.toNat 1) v1;
 self v0 x2 x3 v2
 else Option.none
 else Option.none
 else Option.none
 else
 let v3 : Int := IntKind.i64.wrap (x1 - 16);
 bif Decidable.decide (0 ≤ v3) && Decidable.decide (v3 < 16) then
 bif Decidable.decide (0 ≤ x1) && Decidable.decide (x1 < nI (rowLen 1 x2)) then
 bif Decidable.decide (0 ≤ v3) && Decidable.decide (v3 < 16) then
 let v4 : Int := IntKind.i64.wrap (x1 + 1);
 let v5 : Int := IntKind.u64.wrap (38 * x2.getD (mulE x1.toNat 1) 0);
 let v6 : Int := IntKind.u64.wrap (x4.getD (mulE v3.toNat 1) 0 + v5);
 let v7 : List Int := x4.set (mulE v3.toNat 1) v6;
 self v4 x2 x3 v7
 else Option.none
 else Option.none
 else Option.none
else k1 (Decidable.decide (x1 < nI (rowLen 1 x2))) x1 x2 x3 x4
noncomputable def f124_2_lp {R : Type} (N : Nat) (k1 : Bool → Int → List Int → List Int → List Int → Option R) : Nat → Int → List Int → List Int → List Int → Option R
 | 0, _, _, _, _ => none
 | n + 1, x1, x2, x3, x4 => f124_2_st N (f124_2_lp N k1 n) k1 x1 x2 x3 x4
noncomputable def f124_2_F (N : Nat) : (R : Type) → List Leaf → (X → AS → Option R) → Option R := fun _ ls K => match ls with
 | [.i x1, .l x2, .l x3, .l x4] => f124_2_lp N (fun y1 y2 y3 y4 y5 => K (X.normal) (fill f124_2_ex1 [.b y1, .i y2, .l y3, .l y4, .l y5])) N x1 x2 x3 x4
 | _ => none
def f124_6_sh : Shp := { n := 100, lo := 1, slots := [(2, .one (.fix (At.ptr 2 0 Off.z 16))), (6, .one (.fix (At.ptr 6 0 Off.z 16))), (8, .one (.int IntKind.i64)), (9, .one (.int IntKind.u64)), (10, .one (.int IntKind.i64))], items := [(2, .obj [.ints IntKind.u64 16]), (6, .obj [.ints IntKind.u64 16])] }
def f124_6_ex1 : Shp := { n := 100, lo := 1, slots := [(75, .one (.bool)), (2, .one (.fix (At.ptr 2 0 Off.z 16))), (6, .one (.fix (At.ptr 6 0 Off.z 16))), (8, .one (.int IntKind.i64)), (9, .one (.int IntKind.u64)), (10, .one (.int IntKind.i64))], items := [(2, .obj [.ints IntKind.u64 16]), (6, .obj [.ints IntKind.u64 16])] }
noncomputable def f124_6_st {R : Type} (N : Nat) (self : Int → Int → Int → List Int → List Int → Option R) (k1 : Bool → Int → Int → Int → List Int → List Int → Option R) (x1 : Int) (x2 : Int) (x3 : Int) (x4 : List Int) (x5 : List Int) : Option R :=
 bif Decidable.decide (x3 < 16) then
 bif Decidable.decide (0 ≤ x3) && Decidable.decide (x3 < 16) then
 bif Decidable.decide (0 ≤ x3) && Decidable.decide (x3 < 16) then
 let v0 : Int := IntKind.u64.wrap (x5.getD (mulE x3.toNat 1) 0 + x2);
 let v1 : Int := IntKind.u64.wrap (v0.tdiv 65536);
 let v2 : Int := IntKind.i64.wrap (x3 + 1);
 let v3 : List Int := x5.set (mulE x3.toNat 1) (v0.tmod 65536);
 self x1 v1 v2 x4 v3
 else Option.none
 else Option.none
else k1 (Decidable.decide (x3 < 16)) x1 x2 x3 x4 x5
noncomputable def f124_6_lp {R : Type} (N : Nat) (k1 : Bool → Int → Int → Int → List Int → List Int → Option R) : Nat → Int → Int → Int → List Int → List Int → Option R
 | 0, _, _, _, _, _ => none
 | n + 1, x1, x2, x3, x4, x5 => f124_6_st N (f124_6_lp N k1 n) k1 x1 x2 x3 x4 x5
noncomputable def f124_6_F (N : Nat) : (R : Type) → List Leaf → (X → AS → Option R) → Option R := fun _ ls K => match ls with
 | [.i x1, .i x2, .i x3, .l x4, .l x5] => f124_6_lp N (fun y1 y2 y3 y4 y5 y6 => K (X.normal) (fill f124_6_ex1 [.b y1, .i y2, .i y3, .i y4, .l y5, .l y6])) N x1 x2 x3 x4 x5
 | _ => none
def f124_4_sh : Shp := { n := 100, lo := 1, slots := [(2, .one (.fix (At.ptr 2 0 Off.z 16))), (6, .one (.fix (At.ptr 6 0 Off.z 16))), (8, .one (.int IntKind.i64))], items := [(2, .obj [.ints IntKind.u64 16]), (6, .obj [.ints IntKind.u64 16])] }
def f124_4_ex1 : Shp := { n := 100, lo := 1, slots := [(71, .one (.bool)), (2, .one (.fix (At.ptr 2 0 Off.z 16))), (6, .one (.fix (At.ptr 6 0 Off.z 16))), (8, .one (.int IntKind.i64))], items := [(2, .obj [.ints IntKind.u64 16]), (6, .obj [.ints IntKind.u64 16])] }
noncomputable def f124_4_st {R : Type} (N : Nat) (self : Int → List Int → List Int → Option R) (k1 : Bool → Int → List Int → List Int → Option R) (x1 : Int) (x2 : List Int) (x3 : List Int) : Option R :=
 bif Decidable.decide (x1 < 8) then
 f124_6_lp N
 (fun w0_1 w0_2 w0_3 w0_4 w0_5 w0_6 =>
 let v1 : Int := IntKind.i64.wrap (w0_2 + 1);
 let v2 : Int := IntKind.u64.wrap (38 * w0_3);
 let v3 : Int := IntKind.u64.wrap (w0_6.getD (mulE (Int.toNat 0) 1) 0 + v2);
 let v4 : List Int := w0_6.set (mulE (Int.toNat 0) 1) v3;
 self v1 w0_5 v4)
 N x1 0 0 x2 x3
else k1 (Decidable.decide (x1 < 8)) x1 x2 x3
noncomputable def f124_4_lp {R : Type} (N : Nat) (k1 : Bool → Int → List Int → List Int → Option R) : Nat → Int → List Int → List Int → Option R
 | 0, _, _, _ => none
 | n + 1, x1, x2, x3 => f124_4_st N (f124_4_lp N k1 n) k1 x1 x2 x3
noncomputable def f124_4_F (N : Nat) : (R : Type) → List Leaf → (X → AS → Option R) → Option R := fun _ ls K => match ls with
 | [.i x1, .l x2, .l x3] => f124_4_lp N (fun y1 y2 y3 y4 => K (X.normal) (fill f124_4_ex1 [.b y1, .i y2, .l y3, .l y4])) N x1 x2 x3
 | _ => none
def f124_8_sh : Shp := { n := 100, lo := 1, slots := [(2, .one (.fix (At.ptr 2 0 Off.z 16))), (6, .one (.fix (At.ptr 6 0 Off.z 16)))], items := [(2, .obj [.ints IntKind.u64 16]), (6, .obj [.ints IntKind.u64 16])] }
def f124_8_ex1 : Shp := { n := 100, lo := 1, slots := [(96, .one (.bool)), (2, .one (.fix (At.ptr 2 0 Off.z 16))), (6, .one (.fix (At.ptr 6 0 Off.z 16)))], items := [(2, .obj [.ints IntKind.u64 16]), (6, .obj [.ints IntKind.u64 16])] }
noncomputable def f124_8_st {R : Type} (N : Nat) (self : List Int → List Int → Option R) (k1 : Bool → List Int → List Int → Option R) (x1 : List Int) (x2 : List Int) : Option R :=
 bif okD x2 then bif Decidable.decide (p25519 ≤ numD x2) then bif okD x2 && Decidable.decide (p25519 ≤ numD x2) then self x1 (refN (numD x2 - p25519)) else Option.none else k1 (Decidable.decide (p25519 ≤ numD x2)) x1 x2 else Option.none
noncomputable def f124_8_lp {R : Type} (N : Nat) (k1 : Bool → List Int → List Int → Option R) : Nat → List Int → List Int → Option R
 | 0, _, _ => none
 | n + 1, x1, x2 => f124_8_st N (f124_8_lp N k1 n) k1 x1 x2
noncomputable def f124_8_F (N : Nat) : (R : Type) → List Leaf → (X → AS → Option R) → Option R := fun _ ls K => match ls with
 | [.l x1, .l x2] => f124_8_lp N (fun y1 y2 y3 => K (X.normal) (fill f124_8_ex1 [.b y1, .l y2, .l y3])) N x1 x2
 | _ => none
noncomputable def f124_raw {R : Type} (N : Nat) (l : List Int) (k : List DV → Option R) : Option R :=
 bif Decidable.decide (nI (rowLen 1 l) > 32) then bif loOk (Option.some 16) (hiInt Option.none (rowLen 1 l)) then Option.none else Option.none else f124_2_lp N (fun w0_1 w0_2 w0_3 w0_4 w0_5 => f124_4_lp N (fun w1_1 w1_2 w1_3 w1_4 => f124_8_lp N (fun w2_1 w2_2 w2_3 => k [DV.v (SV.one (At.ints IntKind.u64 16 w2_3))]) N w1_3 w1_4) N 0 w0_4 w0_5) N 0 l (List.replicate 16 0) (List.replicate 16 0)


noncomputable def E124 (N : Nat) : Env := { Θ := Th, Γ := HB, K := K124, ν := N124, fuel := 0, lp := [(2, mkL N124_2 f124_2_sh (f124_2_F N)), (4, mkL N124_4 f124_4_sh (f124_4_F N)), (6, mkL N124_6 f124_6_sh (f124_6_F N)), (8, mkL N124_8 f124_8_sh (f124_8_F N))] }

theorem f124_2_st_eq {R : Type} (N : Nat) (K : X → AS → Option R) (n : Nat) (x1 : Int) (x2 : List Int) (x3 : List Int) (x4 : List Int) : roundsOf (E124 N) N124_2 2 B124_2 K (n + 1) (fill f124_2_sh [.i x1, .l x2, .l x3, .l x4]) = f124_2_st N (fun x1 x2 x3 x4 => roundsOf (E124 N) N124_2 2 B124_2 K n (fill f124_2_sh [.i x1, .l x2, .l x3, .l x4])) (fun y1 y2 y3 y4 y5 => K (X.normal) (fill f124_2_ex1 [.b y1, .i y2, .l y3, .l y4, .l y5])) x1 x2 x3 x4 := by kernel_rfl
theorem f124_2_lp_eq {R : Type} (N : Nat) (K : X → AS → Option R) : ∀ (n : Nat) (x1 : Int) (x2 : List Int) (x3 : List Int) (x4 : List Int), roundsOf (E124 N) N124_2 2 B124_2 K n (fill f124_2_sh [.i x1, .l x2, .l x3, .l x4]) = f124_2_lp N (fun y1 y2 y3 y4 y5 => K (X.normal) (fill f124_2_ex1 [.b y1, .i y2, .l y3, .l y4, .l y5])) n x1 x2 x3 x4
  | 0, _, _, _, _ => rfl
  | n + 1, x1, x2, x3, x4 => by
    rw [f124_2_st_eq, f124_2_lp, show (fun x1 x2 x3 x4 => roundsOf (E124 N) N124_2 2 B124_2 K n (fill f124_2_sh [.i x1, .l x2, .l x3, .l x4])) = f124_2_lp N (fun y1 y2 y3 y4 y5 => K (X.normal) (fill f124_2_ex1 [.b y1, .i y2, .l y3, .l y4, .l y5])) n from by funext x1 x2 x3 x4; exact f124_2_lp_eq N K n x1 x2 x3 x4]
theorem f124_2_ok (N : Nat) (hlp : LoopsOk Try.prog (E124 N).lp B124_2) (hΓ : CtxOk Try.prog (E124 N).Γ) : LoopOk Try.prog (mkL N124_2 f124_2_sh (f124_2_F N)) 2 B124_2 := by
  refine loopOk_of (E := E124 N) thOk hΓ mixed hlp ?_
  intro R ls K r h
  unfold f124_2_F at h
  split at h
  · exact ⟨N, by rw [f124_2_lp_eq]; exact h⟩
  · cases h
theorem f124_6_st_eq {R : Type} (N : Nat) (K : X → AS → Option R) (n : Nat) (x1 : Int) (x2 : Int) (x3 : Int) (x4 : List Int) (x5 : List Int) : roundsOf (E124 N) N124_6 6 B124_6 K (n + 1) (fill f124_6_sh [.i x1, .i x2, .i x3, .l x4, .l x5]) = f124_6_st N (fun x1 x2 x3 x4 x5 => roundsOf (E124 N) N124_6 6 B124_6 K n (fill f124_6_sh [.i x1, .i x2, .i x3, .l x4, .l x5])) (fun y1 y2 y3 y4 y5 y6 => K (X.normal) (fill f124_6_ex1 [.b y1, .i y2, .i y3, .i y4, .l y5, .l y6])) x1 x2 x3 x4 x5 := by kernel_rfl
theorem f124_6_lp_eq {R : Type} (N : Nat) (K : X → AS → Option R) : ∀ (n : Nat) (x1 : Int) (x2 : Int) (x3 : Int) (x4 : List Int) (x5 : List Int), roundsOf (E124 N) N124_6 6 B124_6 K n (fill f124_6_sh [.i x1, .i x2, .i x3, .l x4, .l x5]) = f124_6_lp N (fun y1 y2 y3 y4 y5 y6 => K (X.normal) (fill f124_6_ex1 [.b y1, .i y2, .i y3, .i y4, .l y5, .l y6])) n x1 x2 x3 x4 x5
  | 0, _, _, _, _, _ => rfl
  | n + 1, x1, x2, x3, x4, x5 => by
    rw [f124_6_st_eq, f124_6_lp, show (fun x1 x2 x3 x4 x5 => roundsOf (E124 N) N124_6 6 B124_6 K n (fill f124_6_sh [.i x1, .i x2, .i x3, .l x4, .l x5])) = f124_6_lp N (fun y1 y2 y3 y4 y5 y6 => K (X.normal) (fill f124_6_ex1 [.b y1, .i y2, .i y3, .i y4, .l y5, .l y6])) n from by funext x1 x2 x3 x4 x5; exact f124_6_lp_eq N K n x1 x2 x3 x4 x5]
theorem f124_6_ok (N : Nat) (hlp : LoopsOk Try.prog (E124 N).lp B124_6) (hΓ : CtxOk Try.prog (E124 N).Γ) : LoopOk Try.prog (mkL N124_6 f124_6_sh (f124_6_F N)) 6 B124_6 := by
  refine loopOk_of (E := E124 N) thOk hΓ mixed hlp ?_
  intro R ls K r h
  unfold f124_6_F at h
  split at h
  · exact ⟨N, by rw [f124_6_lp_eq]; exact h⟩
  · cases h
theorem f124_4_st_eq {R : Type} (N : Nat) (K : X → AS → Option R) (n : Nat) (x1 : Int) (x2 : List Int) (x3 : List Int) : roundsOf (E124 N) N124_4 4 B124_4 K (n + 1) (fill f124_4_sh [.i x1, .l x2, .l x3]) = f124_4_st N (fun x1 x2 x3 => roundsOf (E124 N) N124_4 4 B124_4 K n (fill f124_4_sh [.i x1, .l x2, .l x3])) (fun y1 y2 y3 y4 => K (X.normal) (fill f124_4_ex1 [.b y1, .i y2, .l y3, .l y4])) x1 x2 x3 := by kernel_rfl
theorem f124_4_lp_eq {R : Type} (N : Nat) (K : X → AS → Option R) : ∀ (n : Nat) (x1 : Int) (x2 : List Int) (x3 : List Int), roundsOf (E124 N) N124_4 4 B124_4 K n (fill f124_4_sh [.i x1, .l x2, .l x3]) = f124_4_lp N (fun y1 y2 y3 y4 => K (X.normal) (fill f124_4_ex1 [.b y1, .i y2, .l y3, .l y4])) n x1 x2 x3
  | 0, _, _, _ => rfl
  | n + 1, x1, x2, x3 => by
    rw [f124_4_st_eq, f124_4_lp, show (fun x1 x2 x3 => roundsOf (E124 N) N124_4 4 B124_4 K n (fill f124_4_sh [.i x1, .l x2, .l x3])) = f124_4_lp N (fun y1 y2 y3 y4 => K (X.normal) (fill f124_4_ex1 [.b y1, .i y2, .l y3, .l y4])) n from by funext x1 x2 x3; exact f124_4_lp_eq N K n x1 x2 x3]
theorem f124_4_ok (N : Nat) (hlp : LoopsOk Try.prog (E124 N).lp B124_4) (hΓ : CtxOk Try.prog (E124 N).Γ) : LoopOk Try.prog (mkL N124_4 f124_4_sh (f124_4_F N)) 4 B124_4 := by
  refine loopOk_of (E := E124 N) thOk hΓ mixed hlp ?_
  intro R ls K r h
  unfold f124_4_F at h
  split at h
  · exact ⟨N, by rw [f124_4_lp_eq]; exact h⟩
  · cases h
theorem f124_8_st_eq {R : Type} (N : Nat) (K : X → AS → Option R) (n : Nat) (x1 : List Int) (x2 : List Int) : roundsOf (E124 N) N124_8 8 B124_8 K (n + 1) (fill f124_8_sh [.l x1, .l x2]) = f124_8_st N (fun x1 x2 => roundsOf (E124 N) N124_8 8 B124_8 K n (fill f124_8_sh [.l x1, .l x2])) (fun y1 y2 y3 => K (X.normal) (fill f124_8_ex1 [.b y1, .l y2, .l y3])) x1 x2 := by kernel_rfl
theorem f124_8_lp_eq {R : Type} (N : Nat) (K : X → AS → Option R) : ∀ (n : Nat) (x1 : List Int) (x2 : List Int), roundsOf (E124 N) N124_8 8 B124_8 K n (fill f124_8_sh [.l x1, .l x2]) = f124_8_lp N (fun y1 y2 y3 => K (X.normal) (fill f124_8_ex1 [.b y1, .l y2, .l y3])) n x1 x2
  | 0, _, _ => rfl
  | n + 1, x1, x2 => by
    rw [f124_8_st_eq, f124_8_lp, show (fun x1 x2 => roundsOf (E124 N) N124_8 8 B124_8 K n (fill f124_8_sh [.l x1, .l x2])) = f124_8_lp N (fun y1 y2 y3 => K (X.normal) (fill f124_8_ex1 [.b y1, .l y2, .l y3])) n from by funext x1 x2; exact f124_8_lp_eq N K n x1 x2]
theorem f124_8_ok (N : Nat) (hlp : LoopsOk Try.prog (E124 N).lp B124_8) (hΓ : CtxOk Try.prog (E124 N).Γ) : LoopOk Try.prog (mkL N124_8 f124_8_sh (f124_8_F N)) 8 B124_8 := by
  refine loopOk_of (E := E124 N) thOk hΓ mixed hlp ?_
  intro R ls K r h
  unfold f124_8_F at h
  split at h
  · exact ⟨N, by rw [f124_8_lp_eq]; exact h⟩
  · cases h

theorem lok124_8 (N : Nat) (hΓ : CtxOk Try.prog HB) : LoopOk Try.prog (mkL N124_8 f124_8_sh (f124_8_F N)) 8 B124_8 := f124_8_ok N (loopsOk_of (l := []) (by kernel_rfl) trivial) hΓ
theorem lok124_6 (N : Nat) (hΓ : CtxOk Try.prog HB) : LoopOk Try.prog (mkL N124_6 f124_6_sh (f124_6_F N)) 6 B124_6 := f124_6_ok N (loopsOk_of (l := []) (by kernel_rfl) trivial) hΓ
theorem lok124_4 (N : Nat) (hΓ : CtxOk Try.prog HB) : LoopOk Try.prog (mkL N124_4 f124_4_sh (f124_4_F N)) 4 B124_4 := f124_4_ok N (loopsOk_of (l := [(6, B124_6)]) (by kernel_rfl) (allOk_cons (L := mkL N124_6 f124_6_sh (f124_6_F N)) rfl (lok124_6 N hΓ) trivial)) hΓ
theorem lok124_2 (N : Nat) (hΓ : CtxOk Try.prog HB) : LoopOk Try.prog (mkL N124_2 f124_2_sh (f124_2_F N)) 2 B124_2 := f124_2_ok N (loopsOk_of (l := []) (by kernel_rfl) trivial) hΓ
theorem f124_contract (N : Nat) (hΓ : CtxOk Try.prog HB) : Contract Try.prog 124 { sig := S124, impl := fun _ ds k => call (E124 N) S124 100 B124 R124 ds k } :=
  call_contract (E := E124 N) thOk hΓ mixed ok124.look ok124.body ok124.n ok124.rv ok124.name rfl (by decide) (loopsOk_of (l := [(0, B124_0), (2, B124_2), (4, B124_4), (6, B124_6), (8, B124_8)]) (by kernel_rfl) (allOk_skip rfl (allOk_cons (L := mkL N124_2 f124_2_sh (f124_2_F N)) rfl (lok124_2 N hΓ) (allOk_cons (L := mkL N124_4 f124_4_sh (f124_4_F N)) rfl (lok124_4 N hΓ) (allOk_cons (L := mkL N124_6 f124_6_sh (f124_6_F N)) rfl (lok124_6 N hΓ) (allOk_cons (L := mkL N124_8 f124_8_sh (f124_8_F N)) rfl (lok124_8 N hΓ) trivial))))))
theorem f124_raw_eq {R : Type} (N : Nat) (l : List Int) (k : List DV → Option R) : call (E124 N) S124 100 B124 R124 [.lst .u64 1 l] k = f124_raw N l k := by kernel_rfl
end Go.Proofs.Ytcgolglcjfknpaa

/- The document's numbers: any digits, modulo p. -/
namespace Go.Proofs.Ytcgolglcjfknpaa
open Go Go.Eng
set_option maxRecDepth 100000
set_option linter.unusedVariables false

/-! ### the upper half, 38 times, onto the lower one -/
def foldF (l : List Nat) (i : Nat) : List Nat := (List.range 16).map fun j => (if j < i then l.getD j 0 else 0) + (if j + 16 < i then 38 * l.getD (j + 16) 0 else 0)
theorem foldF_len (l : List Nat) (i : Nat) : (foldF l i).length = 16 := by simp [foldF]
theorem foldF_get (l : List Nat) (i j : Nat) (hj : j < 16) : (foldF l i).getD j 0 = (if j < i then l.getD j 0 else 0) + (if j + 16 < i then 38 * l.getD (j + 16) 0 else 0) := by
  rw [List.getD_eq_getElem?_getD, List.getElem?_eq_getElem (by rw [foldF_len]; exact hj), Option.getD_some]
  simp [foldF]
theorem ext_getD {a b : List Nat} (h : a.length = b.length) (h2 : ∀ j, j < a.length → a.getD j 0 = b.getD j 0) : a = b := by
  apply List.ext_getElem h
  intro j h1 h3
  have := h2 j h1
  rwa [List.getD_eq_getElem?_getD, List.getD_eq_getElem?_getD, List.getElem?_eq_getElem h1, List.getElem?_eq_getElem h3] at this
theorem getD_set {a : List Nat} {i j y : Nat} (hi : i < a.length) : (a.set i y).getD j 0 = if j = i then y else a.getD j 0 := by
  rw [List.getD_eq_getElem?_getD, List.getElem?_set]
  by_cases h : i = j
  · subst h; simp [hi]
  · rw [if_neg h, if_neg (fun e => h e.symm), List.getD_eq_getElem?_getD]
theorem foldF_lo (l : List Nat) {i : Nat} (hi : i < 16) : (foldF l i).set i ((foldF l i).getD i 0 + l.getD i 0) = foldF l (i + 1) := by
  apply ext_getD (by rw [List.length_set, foldF_len, foldF_len])
  intro j hj
  rw [List.length_set, foldF_len] at hj
  rw [getD_set (by rw [foldF_len]; exact hi), foldF_get _ _ _ hj, foldF_get _ _ _ hj, foldF_get _ _ _ hi]
  by_cases h : j = i
  · subst h
    rw [if_pos rfl, if_neg (by omega), if_neg (by omega), if_pos (by omega), if_neg (by omega)]
    omega
  · rw [if_neg h, if_neg (show ¬ j + 16 < i by omega), if_neg (show ¬ j + 16 < i + 1 by omega)]
    by_cases h2 : j < i
    · rw [if_pos h2, if_pos (by omega)]
    · rw [if_neg h2, if_neg (by omega)]
theorem foldF_hi (l : List Nat) {i : Nat} (h1 : 16 ≤ i) (h2 : i < 32) : (foldF l i).set (i - 16) ((foldF l i).getD (i - 16) 0 + 38 * l.getD i 0) = foldF l (i + 1) := by
  apply ext_getD (by rw [List.length_set, foldF_len, foldF_len])
  intro j hj
  rw [List.length_set, foldF_len] at hj
  rw [getD_set (by rw [foldF_len]; omega), foldF_get _ _ _ hj, foldF_get _ _ _ hj, foldF_get _ _ _ (by omega)]
  by_cases h : j = i - 16
  · subst h
    rw [if_pos rfl, if_pos (by omega), if_neg (by omega), if_pos (by omega), if_pos (by omega), show i - 16 + 16 = i by omega]
    omega
  · rw [if_neg h, if_pos (show j < i by omega), if_pos (show j < i + 1 by omega)]
    by_cases h3 : j + 16 < i
    · rw [if_pos h3, if_pos (by omega)]
    · rw [if_neg h3, if_neg (by omega)]
theorem getD_lt {l : List Nat} {M : Nat} (hM : 0 < M) (h : ∀ x ∈ l, x < M) (j : Nat) : l.getD j 0 < M := by
  rw [List.getD_eq_getElem?_getD]
  cases e : l[j]? with
  | none => exact hM
  | some a => exact h a (List.mem_of_getElem? e)
theorem foldF_lt {l : List Nat} (h : ∀ x ∈ l, x < 1099511627776) (i j : Nat) (hj : j < 16) : (foldF l i).getD j 0 < 42880953483264 := by
  rw [foldF_get _ _ _ hj]
  have h1 := getD_lt (by decide) h j
  have h2 := getD_lt (by decide) h (j + 16)
  split <;> split <;> omega
theorem foldF_mem {l : List Nat} (h : ∀ x ∈ l, x < 1099511627776) (i : Nat) : ∀ x ∈ foldF l i, x < 2 ^ 46 := by
  intro x hx
  obtain ⟨j, hj, rfl⟩ := List.getElem_of_mem hx
  have hj' : j < 16 := by rw [← foldF_len l i]; exact hj
  have := foldF_lt h i j hj'
  rw [List.getD_eq_getElem?_getD, List.getElem?_eq_getElem hj, Option.getD_some] at this
  omega

theorem valB_map_add (b c : Nat) (f g : Nat → Nat) : ∀ r : List Nat, valB b (r.map fun j => f j + c * g j) = valB b (r.map f) + c * valB b (r.map g)
  | [] => by simp [valB]
  | x :: r => by
    simp only [List.map_cons, valB, valB_map_add b c f g r, Nat.mul_add]
    rw [Nat.mul_left_comm b c]
    omega
theorem valB_zeros (b : Nat) : ∀ (r : List Nat), valB b (r.map fun _ => 0) = 0
  | [] => rfl
  | x :: r => by simp only [List.map_cons, valB, valB_zeros b r]; rfl
theorem valB_range (b : Nat) : ∀ (n : Nat) (l : List Nat), valB b ((List.range n).map fun j => l.getD j 0) = valB b (l.take n)
  | 0, l => by simp [valB]
  | n + 1, [] => by
    have := valB_zeros b (List.range (n + 1))
    simpa [valB] using this
  | n + 1, x :: t => by
    rw [List.range_succ_eq_map, List.map_cons, List.map_map, List.take_succ_cons, valB, valB, ← valB_range b n t]
    rfl
theorem foldF_val {l : List Nat} (hl : l.length ≤ 32) : valB 65536 (foldF l l.length) = valB 65536 (l.take 16) + 38 * valB 65536 (l.drop 16) := by
  have e : foldF l l.length = (List.range 16).map fun j => l.getD j 0 + 38 * (l.drop 16).getD j 0 := by
    unfold foldF
    apply List.map_congr_left
    intro j _
    have e1 : (if j < l.length then l.getD j 0 else 0) = l.getD j 0 := by
      split
      · rfl
      · rw [List.getD_eq_getElem?_getD, List.getElem?_eq_none (by omega)]; rfl
    have e2 : (l.drop 16).getD j 0 = l.getD (j + 16) 0 := by
      rw [List.getD_eq_getElem?_getD, List.getD_eq_getElem?_getD, List.getElem?_drop, Nat.add_comm]
    rw [e1, e2]
    split
    · rfl
    · rw [List.getD_eq_getElem?_getD (l := l) (i := j + 16), List.getElem?_eq_none (by omega)]; rfl
  rw [e, valB_map_add, valB_range, valB_range, List.take_of_length_le (l := l.drop 16) (by rw [List.length_drop]; omega)]
theorem val_halves (l : List Nat) : valB 65536 l = valB 65536 (l.take 16) + 65536 ^ 16 * valB 65536 (l.drop 16) := by
  conv => lhs; rw [← List.take_append_drop 16 l]
  rw [valB_append, List.length_take]
  by_cases h : 16 ≤ l.length
  · rw [Nat.min_eq_left h]
  · rw [List.drop_of_length_le (by omega)]; simp [valB]
theorem two256 : 65536 ^ 16 = 38 + p25519 * 2 := by decide
theorem foldF_mod {l : List Nat} (hl : l.length ≤ 32) : valB 65536 (foldF l l.length) % p25519 = valB 65536 l % p25519 := by
  rw [foldF_val hl, val_halves l, two256, Nat.add_mul, ← Nat.add_assoc, Nat.mul_assoc, Nat.add_mul_mod_self_left]

theorem f124_fold {R : Type} (N : Nat) (k1 : Bool → Int → List Int → List Int → List Int → Option R) (z : List Int) {l : List Nat} (hl : l.length ≤ 32) (hb : ∀ x ∈ l, x < 1099511627776) :
    ∀ j i : Nat, i + j = l.length → ∀ fuel, j < fuel → f124_2_lp N k1 fuel (i : Int) (nats l) z (nats (foldF l i)) = k1 false (l.length : Int) (nats l) z (nats (foldF l l.length)) := by
  intro j
  induction j with
  | zero =>
    intro i hi fuel hf
    obtain ⟨f, rfl⟩ : ∃ f, fuel = f + 1 := ⟨fuel - 1, by omega⟩
    have : i = l.length := by omega
    subst this
    show f124_2_st N (f124_2_lp N k1 f) k1 _ _ _ _ = _
    unfold f124_2_st
    rw [show nI (rowLen 1 (nats l)) = (l.length : Int) from by show (((nats l).length : Nat) : Int) = _; rw [nats_length], decide_eq_false (by omega), cond_false]
  | succ j ih =>
    intro i hi fuel hf
    obtain ⟨f, rfl⟩ : ∃ f, fuel = f + 1 := ⟨fuel - 1, by omega⟩
    have hx := getD_lt (by decide) hb i
    show f124_2_st N (f124_2_lp N k1 f) k1 _ _ _ _ = _
    unfold f124_2_st
    rw [show nI (rowLen 1 (nats l)) = (l.length : Int) from by show (((nats l).length : Nat) : Int) = _; rw [nats_length]]
    rw [decide_eq_true (show (i : Int) < (l.length : Int) by omega), decide_eq_true (show 0 ≤ (i : Int) by omega), show mulE (Int.toNat (i : Int)) 1 = i from rfl]
    have hn := ih (i + 1) (by omega) f (by omega)
    rw [show ((i + 1 : Nat) : Int) = (i : Int) + 1 from rfl] at hn
    by_cases h : i < 16
    · rw [decide_eq_true (show (i : Int) < 16 by omega)]
      simp only [Bool.and_self, cond_true]
      rw [nats_getD, nats_getD, wrapI (by omega) (by omega)]
      have hf := foldF_lt hb i i h
      rw [show (((foldF l i).getD i 0 : Nat) : Int) + ((l.getD i 0 : Nat) : Int) = (((foldF l i).getD i 0 + l.getD i 0 : Nat) : Int) from rfl, w64 (by omega), nats_set, foldF_lo l h]
      exact hn
    · rw [decide_eq_false (show ¬ (i : Int) < 16 by omega), wrapI (a := (i : Int) - 16) (by omega) (by omega), show (i : Int) - 16 = ((i - 16 : Nat) : Int) by omega]
      dsimp only
      rw [decide_eq_true (show 0 ≤ ((i - 16 : Nat) : Int) by omega), decide_eq_true (show ((i - 16 : Nat) : Int) < 16 by omega), show mulE (Int.toNat ((i - 16 : Nat) : Int)) 1 = i - 16 from rfl]
      simp only [Bool.and_self, cond_true, cond_false]
      rw [nats_getD, nats_getD, wrapI (a := (i : Int) + 1) (by omega) (by omega)]
      have hf := foldF_lt hb i (i - 16) (by omega)
      rw [show (38 : Int) * ((l.getD i 0 : Nat) : Int) = ((38 * l.getD i 0 : Nat) : Int) from rfl, w64 (n := 38 * l.getD i 0) (by omega)]
      rw [show (((foldF l i).getD (i - 16) 0 : Nat) : Int) + ((38 * l.getD i 0 : Nat) : Int) = (((foldF l i).getD (i - 16) 0 + 38 * l.getD i 0 : Nat) : Int) from rfl, w64 (by omega), nats_set, foldF_hi l (by omega) (by omega)]
      exact hn

/-! ### one turn -/
theorem f124_norm {R : Type} (N : Nat) (k1 : Bool → Int → Int → Int → List Int → List Int → Option R) (t : Int) (z : List Int) :
    ∀ (B A : List Nat) (c : Nat), A.length + B.length = 16 → (∀ x ∈ B, x < 2 ^ 46) → c < 2 ^ 46 → ∀ fuel, B.length < fuel →
      f124_6_lp N k1 fuel t (c : Int) (A.length : Int) z (nats (A ++ B)) = k1 false t ((normG B c).2 : Int) 16 z (nats (A ++ (normG B c).1)) := by
  intro B
  induction B with
  | nil =>
    intro A c hA _ hc fuel hf
    obtain ⟨f, rfl⟩ : ∃ f, fuel = f + 1 := ⟨fuel - 1, by omega⟩
    have hl : A.length = 16 := by simpa using hA
    show f124_6_st N (f124_6_lp N k1 f) k1 _ _ _ _ _ = _
    unfold f124_6_st
    rw [hl]
    rfl
  | cons x B ih =>
    intro A c hA hB hc fuel hf
    obtain ⟨f, rfl⟩ : ∃ f, fuel = f + 1 := ⟨fuel - 1, by omega⟩
    rw [List.length_cons] at hA hf
    have hi : A.length < 16 := by omega
    have hx := hB x (.head _)
    show f124_6_st N (f124_6_lp N k1 f) k1 _ _ _ _ _ = _
    unfold f124_6_st
    rw [decide_eq_true (show (A.length : Int) < 16 by omega), decide_eq_true (show 0 ≤ (A.length : Int) by omega), cond_true, Bool.and_self, cond_true, cond_true]
    dsimp only
    rw [ngetD, show (x : Int) + (c : Int) = ((x + c : Nat) : Int) from rfl, w64 (n := x + c) (by omega)]
    simp only [normG]
    have hv : x + c < 2 ^ 47 := by omega
    generalize x + c = v at hv
    rw [show ((v : Int).tdiv 65536) = ((v / 65536 : Nat) : Int) from rfl, w64 (n := v / 65536) (by omega)]
    rw [show ((v : Int).tmod 65536) = ((v % 65536 : Nat) : Int) from rfl, nset, wrapI (a := (A.length : Int) + 1) (by omega) (by omega)]
    have := ih (A ++ [v % 65536]) (v / 65536) (by rw [app_len]; omega) (fun y hy => hB y (.tail _ hy)) (by omega) f (by omega)
    rw [app_len, ← app_cons, show ((A.length + 1 : Nat) : Int) = (A.length : Int) + 1 from rfl, ← app_cons] at this
    exact this
def turns : Nat → List Nat → List Nat
  | 0, d => d
  | m + 1, d => turns m (turnG d)
theorem f124_turns {R : Type} (N : Nat) (hN : 16 < N) (k1 : Bool → Int → List Int → List Int → Option R) (z : List Int) :
    ∀ (m i : Nat), i + m = 8 → ∀ d : List Nat, d.length = 16 → (∀ x ∈ d, x < 2 ^ 46) → ∀ fuel, m < fuel → f124_4_lp N k1 fuel (i : Int) z (nats d) = k1 false 8 z (nats (turns m d)) := by
  intro m
  induction m with
  | zero =>
    intro i hi d hd hb fuel hf
    obtain ⟨f, rfl⟩ : ∃ f, fuel = f + 1 := ⟨fuel - 1, by omega⟩
    have : i = 8 := by omega
    subst this
    rfl
  | succ m ih =>
    intro i hi d hd hb fuel hf
    obtain ⟨f, rfl⟩ : ∃ f, fuel = f + 1 := ⟨fuel - 1, by omega⟩
    show f124_4_st N (f124_4_lp N k1 f) k1 _ _ _ = _
    unfold f124_4_st
    rw [decide_eq_true (show (i : Int) < 8 by omega), cond_true]
    refine Eq.trans (f124_norm N _ (i : Int) z d [] 0 (by simpa using hd) hb (by decide) N (by omega)) ?_
    dsimp only
    have hc := normG_carry d 0 hb (by decide) (fun e => by rw [e] at hd; simp at hd)
    obtain ⟨h1, h2, _⟩ := normG_spec d 0
    rw [wrapI (by omega) (by omega), List.nil_append]
    have ht : (nats (normG d 0).1).set (mulE (Int.toNat 0) 1) (IntKind.u64.wrap ((nats (normG d 0).1).getD (mulE (Int.toNat 0) 1) 0 + IntKind.u64.wrap (38 * ((normG d 0).2 : Int)))) = nats (turnG d) := by
      unfold turnG
      cases hn : (normG d 0).1 with
      | nil => rw [hn, hd] at h1; simp at h1
      | cons y r =>
        have hy := h2 y (by rw [hn]; exact .head _)
        rw [show mulE (Int.toNat 0) 1 = 0 from rfl, nats_getD, show (38 : Int) * (((normG d 0).2 : Nat) : Int) = ((38 * (normG d 0).2 : Nat) : Int) from rfl, w64 (n := 38 * (normG d 0).2) (by omega)]
        rw [show (((y :: r).getD 0 0 : Nat) : Int) + ((38 * (normG d 0).2 : Nat) : Int) = ((y + 38 * (normG d 0).2 : Nat) : Int) from rfl, w64 (n := y + 38 * (normG d 0).2) (by omega), nats_set]
        rfl
    rw [ht]
    exact ih (i + 1) (by omega) (turnG d) (by rw [turnG_length]; exact hd) (turnG_lt hb) f (by omega)

theorem turn_mod {d : List Nat} (hd : d.length = 16) : valB 65536 (turnG d) % p25519 = valB 65536 d % p25519 := by
  have h := turnG_val (l := d) (fun e => by rw [e] at hd; simp at hd)
  rw [hd, two256, Nat.add_mul] at h
  have : valB 65536 d = valB 65536 (turnG d) + p25519 * (2 * (normG d 0).2) := by rw [← Nat.mul_assoc]; omega
  rw [this, Nat.add_mul_mod_self_left]
theorem turns_mod : ∀ (m : Nat) {d : List Nat}, d.length = 16 → valB 65536 (turns m d) % p25519 = valB 65536 d % p25519
  | 0, _, _ => rfl
  | m + 1, d, h => by
    show valB 65536 (turns m (turnG d)) % _ = _
    rw [turns_mod m (by rw [turnG_length]; exact h), turn_mod h]
theorem turns_ok : ∀ (m : Nat) {d : List Nat}, d.length = 16 → valB 65536 d < 65536 ^ 16 → (turns (m + 1) d).length = 16 ∧ valB 65536 (turns (m + 1) d) < 65536 ^ 16 ∧ ∀ x ∈ turns (m + 1) d, x < 65536
  | 0, d, h, hv => by
    obtain ⟨h1, h2⟩ := turnG_ok (l := d) (by rw [h]; exact hv) (fun e => by rw [e] at h; simp at h)
    exact ⟨by show (turnG d).length = 16; rw [turnG_length]; exact h, by show valB 65536 (turnG d) < _; rw [h1]; exact hv, h2⟩
  | m + 1, d, h, hv => by
    obtain ⟨h1, h2⟩ := turnG_ok (l := d) (by rw [h]; exact hv) (fun e => by rw [e] at h; simp at h)
    exact turns_ok m (d := turnG d) (by rw [turnG_length]; exact h) (by rw [h1]; exact hv)
theorem turn_two {d : List Nat} (hd : d.length = 16) (hb : ∀ x ∈ d, x < 2 ^ 46) : valB 65536 (turnG (turnG d)) < 65536 ^ 16 := by
  have hn : d ≠ [] := fun e => by rw [e] at hd; simp at hd
  have hd1 : (turnG d).length = 16 := by rw [turnG_length]; exact hd
  have hn1 : turnG d ≠ [] := fun e => by rw [e] at hd1; simp at hd1
  have hc := normG_carry d 0 hb (by decide) hn
  have v1 := turnG_val hn
  have v2 := turnG_val hn1
  obtain ⟨l1, s1, e1⟩ := normG_spec d 0
  obtain ⟨l2, s2, e2⟩ := normG_spec (turnG d) 0
  have b1 := valB_lt (b := 65536) (by decide) s1
  have b2 := valB_lt (b := 65536) (by decide) s2
  rw [l1, hd] at b1
  rw [l2, hd1] at b2
  rw [hd] at v1 e1
  rw [hd1] at v2 e2
  have hc2 : (normG (turnG d) 0).2 ≤ 1 := by
    apply Nat.le_of_not_lt
    intro h
    have : 65536 ^ 16 * 2 ≤ 65536 ^ 16 * (normG (turnG d) 0).2 := Nat.mul_le_mul_left _ h
    generalize 65536 ^ 16 * (normG (turnG d) 0).2 = T at *
    generalize 65536 ^ 16 * (normG d 0).2 = T2 at *
    have : (65536 : Nat) ^ 16 = 115792089237316195423570985008687907853269984665640564039457584007913129639936 := by decide
    omega
  generalize valB 65536 (turnG (turnG d)) = V2 at *
  generalize valB 65536 (turnG d) = V1 at *
  generalize valB 65536 (normG d 0).1 = R1 at *
  generalize valB 65536 (normG (turnG d) 0).1 = R2 at *
  generalize (normG d 0).2 = c1 at *
  generalize (normG (turnG d) 0).2 = c2 at *
  have h16 : (65536 : Nat) ^ 16 = 115792089237316195423570985008687907853269984665640564039457584007913129639936 := by decide
  rw [h16] at *
  omega

/-! ### less p, as often as may be -/
theorem f124_less {R : Type} (N : Nat) (k1 : Bool → List Int → List Int → Option R) (z : List Int) : ∀ (fuel v : Nat), v < p25519 * fuel → v < 2 ^ 256 → f124_8_lp N k1 fuel z (refN v) = k1 false z (refN (v % p25519)) := by
  intro fuel
  induction fuel with
  | zero => intro v h; rw [Nat.mul_zero] at h; omega
  | succ f ih =>
    intro v hv h256
    show f124_8_st N (f124_8_lp N k1 f) k1 _ _ = _
    unfold f124_8_st
    rw [okD_refN, cond_true, numD_refN h256, Bool.true_and]
    by_cases h : p25519 ≤ v
    · rw [decide_eq_true h, cond_true, cond_true, ih (v - p25519) (by rw [Nat.mul_succ] at hv; omega) (by omega)]
      rw [Nat.mod_eq_sub_mod h]
    · rw [decide_eq_false h, cond_false, Nat.mod_eq_of_lt (by omega)]

def okL (x : List Int) : Bool := decide (x.length ≤ 32) && x.all (fun b => decide (0 ≤ b) && decide (b < 1099511627776))
theorem okL_of {x : List Int} (h : okL x = true) : ∃ l : List Nat, x = nats l ∧ l.length ≤ 32 ∧ ∀ b ∈ l, b < 1099511627776 := by
  unfold okL at h
  rw [Bool.and_eq_true, List.all_eq_true] at h
  obtain ⟨h1, h2⟩ := h
  have h3 : ∀ b ∈ x, 0 ≤ b ∧ b < 1099511627776 := fun b hb => by
    have := h2 b hb
    rw [Bool.and_eq_true] at this
    exact ⟨of_decide_eq_true this.1, of_decide_eq_true this.2⟩
  obtain ⟨l, rfl⟩ := nats_of (xs := x) fun b hb => (h3 b hb).1
  exact ⟨l, rfl, by rw [← nats_length]; exact of_decide_eq_true h1, fun b hb => Int.ofNat_lt.mp (h3 b (List.mem_map.mpr ⟨b, hb, rfl⟩)).2⟩
theorem okL_nats {l : List Nat} (hl : l.length ≤ 32) (h : ∀ b ∈ l, b < 1099511627776) : okL (nats l) = true := by
  unfold okL
  rw [nats_length, decide_eq_true hl, Bool.true_and, List.all_eq_true]
  intro b hb
  unfold nats at hb
  obtain ⟨n, hn, rfl⟩ := List.mem_map.mp hb
  have := h n hn
  rw [Bool.and_eq_true]
  exact ⟨decide_eq_true (Int.natCast_nonneg n), decide_eq_true (Int.ofNat_lt.mpr this)⟩
noncomputable def I124 : (R : Type) → List DV → (List DV → Option R) → Option R := fun _ ds k => match ds with
  | [.lst .u64 1 l] => bif okL l then k [.v (.one (.ints .u64 16 (refN (numD l % p25519))))] else none
  | _ => none
theorem c124 : Contract Try.prog 124 { sig := S124, impl := I124 } := by
  refine Contract.refine fun R ds k r h => ⟨_, f124_contract 33 HB_ok, ?_⟩
  unfold I124 at h
  split at h
  · rename_i x
    rcases hc : okL x with _ | _
    · rw [hc] at h; cases h
    · rw [hc, cond_true] at h
      obtain ⟨l, rfl, hl, hb⟩ := okL_of hc
      rw [numD_nats] at h
      rw [f124_raw_eq, ← h]
      unfold f124_raw
      rw [show nI (rowLen 1 (nats l)) = (l.length : Int) from by show (((nats l).length : Nat) : Int) = _; rw [nats_length], decide_eq_false (show ¬ (l.length : Int) > 32 by omega), cond_false]
      have h0 : List.replicate 16 (0 : Int) = nats (foldF l 0) := by
        unfold foldF; simp [nats]; rfl
      conv => lhs; rw [h0]
      refine Eq.trans (f124_fold 33 _ (nats (foldF l 0)) hl hb l.length 0 (by omega) 33 (by omega)) ?_
      refine Eq.trans (f124_turns 33 (by decide) _ _ 8 0 rfl _ (foldF_len _ _) (foldF_mem hb _) 33 (by decide)) ?_
      have hlen := foldF_len l l.length
      obtain ⟨t1, t2, t3⟩ := turns_ok 5 (d := turnG (turnG (foldF l l.length))) (by rw [turnG_length, turnG_length]; exact hlen) (turn_two hlen (foldF_mem hb _))
      have ht : turns 8 (foldF l l.length) = turns 6 (turnG (turnG (foldF l l.length))) := rfl
      have hm := turns_mod 8 hlen
      rw [foldF_mod hl, ht] at hm
      rw [ht, nats_refN t1 t3]
      have h16 : (65536 : Nat) ^ 16 = 2 ^ 256 := by decide
      refine Eq.trans (f124_less 33 _ _ 33 _ (by rw [h16] at t2; exact Nat.lt_trans t2 (by decide)) (by rw [h16] at t2; exact t2)) ?_
      rw [hm]
  · cases h
end Go.Proofs.Ytcgolglcjfknpaa

/- Context of the document's numbers, with mod. -/
namespace Go.Proofs.Ytcgolglcjfknpaa
open Go Go.Eng
set_option maxRecDepth 100000
noncomputable def HC : Ctx := [(124, { sig := S124, impl := I124 }), (128, { sig := S128, impl := I128 }), (129, { sig := S129, impl := I129 }), (130, { sig := S130, impl := I130 }), (125, { sig := S125, impl := I125 })]
theorem HC_ok : CtxOk Try.prog HC := ctxOk_cons ok124 rfl c124 (ctxOk_cons ok128 rfl c128 (ctxOk_cons ok129 rfl c129 (ctxOk_cons ok130 rfl c130 (ctxOk_cons ok125 rfl c125 ctxOk_nil))))
end Go.Proofs.Ytcgolglcjfknpaa

/- What rime/rimeref01.Back comes to. MADE BY PROGRAM (wip/tools/mkfn.py, EngGen.lean). -/
namespace Go.Proofs.Ytcgolglcjfknpaa
open Go Go.Eng
set_option maxRecDepth 100000
set_option linter.unusedVariables false

noncomputable def f68_raw {R : Type} (N : Nat) (x : List Int) (k : List DV → Option R) : Option R :=
 let v0 : Int := IntKind.i64.wrap (2 * 0);
let v1 : Int := IntKind.u8.wrap (x.getD (mulE (Int.toNat 0) 1) 0);
let v2 : List Int := (List.replicate 32 0).set (mulE v0.toNat 1) v1;
let v3 : Int := IntKind.i64.wrap (v0 + 1);
let v4 : Int := shrI IntKind.u64 (x.getD (mulE (Int.toNat 0) 1) 0) 8;
let v5 : Int := IntKind.u8.wrap v4;
let v6 : List Int := v2.set (mulE v3.toNat 1) v5;
let v7 : Int := IntKind.i64.wrap (0 + 1);
let v8 : Int := IntKind.i64.wrap (2 * v7);
let v9 : Int := IntKind.u8.wrap (x.getD (mulE v7.toNat 1) 0);
let v10 : List Int := v6.set (mulE v8.toNat 1) v9;
let v11 : Int := IntKind.i64.wrap (v8 + 1);
let v12 : Int := shrI IntKind.u64 (x.getD (mulE v7.toNat 1) 0) 8;
let v13 : Int := IntKind.u8.wrap v12;
let v14 : List Int := v10.set (mulE v11.toNat 1) v13;
let v15 : Int := IntKind.i64.wrap (v7 + 1);
let v16 : Int := IntKind.i64.wrap (2 * v15);
let v17 : Int := IntKind.u8.wrap (x.getD (mulE v15.toNat 1) 0);
let v18 : List Int := v14.set (mulE v16.toNat 1) v17;
let v19 : Int := IntKind.i64.wrap (v16 + 1);
let v20 : Int := shrI IntKind.u64 (x.getD (mulE v15.toNat 1) 0) 8;
let v21 : Int := IntKind.u8.wrap v20;
let v22 : List Int := v18.set (mulE v19.toNat 1) v21;
let v23 : Int := IntKind.i64.wrap (v15 + 1);
let v24 : Int := IntKind.i64.wrap (2 * v23);
let v25 : Int := IntKind.u8.wrap (x.getD (mulE v23.toNat 1) 0);
let v26 : List Int := v22.set (mulE v24.toNat 1) v25;
let v27 : Int := IntKind.i64.wrap (v24 + 1);
let v28 : Int := shrI IntKind.u64 (x.getD (mulE v23.toNat 1) 0) 8;
let v29 : Int := IntKind.u8.wrap v28;
let v30 : List Int := v26.set (mulE v27.toNat 1) v29;
let v31 : Int := IntKind.i64.wrap (v23 + 1);
let v32 : Int := IntKind.i64.wrap (2 * v31);
let v33 : Int := IntKind.u8.wrap (x.getD (mulE v31.toNat 1) 0);
let v34 : List Int := v30.set (mulE v32.toNat 1) v33;
let v35 : Int := IntKind.i64.wrap (v32 + 1);
let v36 : Int := shrI IntKind.u64 (x.getD (mulE v31.toNat 1) 0) 8;
let v37 : Int := IntKind.u8.wrap v36;
let v38 : List Int := v34.set (mulE v35.toNat 1) v37;
let v39 : Int := IntKind.i64.wrap (v31 + 1);
let v40 : Int := IntKind.i64.wrap (2 * v39);
let v41 : Int := IntKind.u8.wrap (x.getD (mulE v39.toNat 1) 0);
let v42 : List Int := v38.set (mulE v40.toNat 1) v41;
let v43 : Int := IntKind.i64.wrap (v40 + 1);
let v44 : Int := shrI IntKind.u64 (x.getD (mulE v39.toNat 1) 0) 8;
let v45 : Int := IntKind.u8.wrap v44;
let v46 : List Int := v42.set (mulE v43.toNat 1) v45;
let v47 : Int := IntKind.i64.wrap (v39 + 1);
let v48 : Int := IntKind.i64.wrap (2 * v47);
let v49 : Int := IntKind.u8.wrap (x.getD (mulE v47.toNat 1) 0);
let v50 : List Int := v46.set (mulE v48.toNat 1) v49;
let v51 : Int := IntKind.i64.wrap (v48 + 1);
let v52 : Int := shrI IntKind.u64 (x.getD (mulE v47.toNat 1) 0) 8;
let v53 : Int := IntKind.u8.wrap v52;
let v54 : List Int := v50.set (mulE v51.toNat 1) v53;
let v55 : Int := IntKind.i64.wrap (v47 + 1);
let v56 : Int := IntKind.i64.wrap (2 * v55);
let v57 : Int := IntKind.u8.wrap (x.getD (mulE v55.toNat 1) 0);
let v58 : List Int := v54.set (mulE v56.toNat 1) v57;
let v59 : Int := IntKind.i64.wrap (v56 + 1);
let v60 : Int := shrI IntKind.u64 (x.getD (mulE v55.toNat 1) 0) 8;
let v61 : Int := IntKind.u8.wrap v60;
let v62 : List Int := v58.set (mulE v59.toNat 1) v61;
let v63 : Int := IntKind.i64.wrap (v55 + 1);
let v64 : Int := IntKind.i64.wrap (2 * v63);
let v65 : Int := IntKind.u8.wrap (x.getD (mulE v63.toNat 1) 0);
let v66 : List Int := v62.set (mulE v64.toNat 1) v65;
let v67 : Int := IntKind.i64.wrap (v64 + 1);
let v68 : Int := shrI IntKind.u64 (x.getD (mulE v63.toNat 1) 0) 8;
let v69 : Int := IntKind.u8.wrap v68;
let v70 : List Int := v66.set (mulE v67.toNat 1) v69;
let v71 : Int := IntKind.i64.wrap (v63 + 1);
let v72 : Int := IntKind.i64.wrap (2 * v71);
let v73 : Int := IntKind.u8.wrap (x.getD (mulE v71.toNat 1) 0);
let v74 : List Int := v70.set (mulE v72.toNat 1) v73;
let v75 : Int := IntKind.i64.wrap (v72 + 1);
let v76 : Int := shrI IntKind.u64 (x.getD (mulE v71.toNat 1) 0) 8;
let v77 : Int := IntKind.u8.wrap v76;
let v78 : List Int := v74.set (mulE v75.toNat 1) v77;
let v79 : Int := IntKind.i64.wrap (v71 + 1);
let v80 : Int := IntKind.i64.wrap (2 * v79);
let v81 : Int := IntKind.u8.wrap (x.getD (mulE v79.toNat 1) 0);
let v82 : List Int := v78.set (mulE v80.toNat 1) v81;
let v83 : Int := IntKind.i64.wrap (v80 + 1);
let v84 : Int := shrI IntKind.u64 (x.getD (mulE v79.toNat 1) 0) 8;
let v85 : Int := IntKind.u8.wrap v84;
let v86 : List Int := v82.set (mulE v83.toNat 1) v85;
let v87 : Int := IntKind.i64.wrap (v79 + 1);
let v88 : Int := IntKind.i64.wrap (2 * v87);
let v89 : Int := IntKind.u8.wrap (x.getD (mulE v87.toNat 1) 0);
let v90 : List Int := v86.set (mulE v88.toNat 1) v89;
let v91 : Int := IntKind.i64.wrap (v88 + 1);
let v92 : Int := shrI IntKind.u64 (x.getD (mulE v87.toNat 1) 0) 8;
let v93 : Int := IntKind.u8.wrap v92;
let v94 : List Int := v90.set (mulE v91.toNat 1) v93;
let v95 : Int := IntKind.i64.wrap (v87 + 1);
let v96 : Int := IntKind.i64.wrap (2 * v95);
let v97 : Int := IntKind.u8.wrap (x.getD (mulE v95.toNat 1) 0);
let v98 : List Int := v94.set (mulE v96.toNat 1) v97;
let v99 : Int := IntKind.i64.wrap (v96 + 1);
let v100 : Int := shrI IntKind.u64 (x.getD (mulE v95.toNat 1) 0) 8;
let v101 : Int := IntKind.u8.wrap v100;
let v102 : List Int := v98.set (mulE v99.toNat 1) v101;
let v103 : Int := IntKind.i64.wrap (v95 + 1);
let v104 : Int := IntKind.i64.wrap (2 * v103);
let v105 : Int := IntKind.u8.wrap (x.getD (mulE v103.toNat 1) 0);
let v106 : List Int := v102.set (mulE v104.toNat 1) v105;
let v107 : Int := IntKind.i64.wrap (v104 + 1);
let v108 : Int := shrI IntKind.u64 (x.getD (mulE v103.toNat 1) 0) 8;
let v109 : Int := IntKind.u8.wrap v108;
let v110 : List Int := v106.set (mulE v107.toNat 1) v109;
let v111 : Int := IntKind.i64.wrap (v103 + 1);
let v112 : Int := IntKind.i64.wrap (2 * v111);
let v113 : Int := IntKind.u8.wrap (x.getD (mulE v111.toNat 1) 0);
let v114 : List Int := v110.set (mulE v112.toNat 1) v113;
let v115 : Int := IntKind.i64.wrap (v112 + 1);
let v116 : Int := shrI IntKind.u64 (x.getD (mulE v111.toNat 1) 0) 8;
let v117 : Int := IntKind.u8.wrap v116;
let v118 : List Int := v114.set (mulE v115.toNat 1) v117;
let v119 : Int := IntKind.i64.wrap (v111 + 1);
let v120 : Int := IntKind.i64.wrap (2 * v119);
let v121 : Int := IntKind.u8.wrap (x.getD (mulE v119.toNat 1) 0);
let v122 : List Int := v118.set (mulE v120.toNat 1) v121;
let v123 : Int := IntKind.i64.wrap (v120 + 1);
let v124 : Int := shrI IntKind.u64 (x.getD (mulE v119.toNat 1) 0) 8;
let v125 : Int := IntKind.u8.wrap v124;
let v126 : List Int := v122.set (mulE v123.toNat 1) v125;
k [DV.v (SV.one (At.ints IntKind.u8 32 v126))]


noncomputable def E68 (N : Nat) : Env := { Θ := Th, Γ := HC, K := K68, ν := N68, fuel := 60, lp := [] }


theorem f68_contract (N : Nat) (hΓ : CtxOk Try.prog HC) : Contract Try.prog 68 { sig := S68, impl := fun _ ds k => call (E68 N) S68 26 B68 R68 ds k } :=
  call_contract (E := E68 N) thOk hΓ mixed ok68.look ok68.body ok68.n ok68.rv ok68.name rfl (by decide) (loopsOk_of (l := [(0, B68_0)]) (by kernel_rfl) (allOk_skip rfl trivial))
theorem f68_raw_eq {R : Type} (N : Nat) (x : List Int) (k : List DV → Option R) : call (E68 N) S68 26 B68 R68 [.v (.one (.ints .u64 16 x))] k = f68_raw N x k := by kernel_rfl
end Go.Proofs.Ytcgolglcjfknpaa

