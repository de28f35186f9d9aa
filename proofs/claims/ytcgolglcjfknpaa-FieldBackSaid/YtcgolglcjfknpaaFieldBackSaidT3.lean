/- FieldBack: for any field element, limbs and bytes: Split and Join undo each other; Decode takes what Reduce answers, and nothing else. -/
import Derived.Test.YtcgolglcjfknpaaFieldBackSaidT2
import Derived.Test.YtcgolglcjfknpaaRows
import Derived.WalkKit
import Derived.ProofKit
import Derived.JoinedCond
set_option linter.unusedVariables false
set_option linter.unusedSimpArgs false

/- Sums and differences of elements, and the least form. -/
namespace Go.Proofs.Ytcgolglcjfknpaa
open Go Go.Eng
set_option maxRecDepth 100000

theorem plus_eq (a0 a1 a2 a3 a4 b0 b1 b2 b3 b4 : Int) : plusL [a0, a1, a2, a3, a4] [b0, b1, b2, b3, b4] = carriedL [IntKind.u64.wrap (a0 + b0), IntKind.u64.wrap (a1 + b1), IntKind.u64.wrap (a2 + b2), IntKind.u64.wrap (a3 + b3), IntKind.u64.wrap (a4 + b4)] := by kernel_rfl
theorem minus_eq (a0 a1 a2 a3 a4 b0 b1 b2 b3 b4 : Int) : minusL [a0, a1, a2, a3, a4] [b0, b1, b2, b3, b4] = carriedL [IntKind.u64.wrap (a0 + IntKind.u64.wrap (9007199254740916 - b0)), IntKind.u64.wrap (a1 + IntKind.u64.wrap (9007199254740988 - b1)), IntKind.u64.wrap (a2 + IntKind.u64.wrap (9007199254740988 - b2)), IntKind.u64.wrap (a3 + IntKind.u64.wrap (9007199254740988 - b3)), IntKind.u64.wrap (a4 + IntKind.u64.wrap (9007199254740988 - b4))] := by kernel_rfl

/-- limbs that stand for v -/
def Wid (a0 a1 a2 a3 a4 : Nat) : Prop := a0 < 4503599627370496 ∧ a1 < 4503599627370496 ∧ a2 < 4503599627370496 ∧ a3 < 4503599627370496 ∧ a4 < 4503599627370496
theorem Red.wid {a0 a1 a2 a3 a4 : Nat} (h : Red a0 a1 a2 a3 a4) : Wid a0 a1 a2 a3 a4 := by
  obtain ⟨h0, h1, h2, h3, h4⟩ := h
  exact ⟨by omega, by omega, by omega, by omega, by omega⟩
theorem Wid.lim {a0 a1 a2 a3 a4 : Nat} (h : Wid a0 a1 a2 a3 a4) : Lim a0 a1 a2 a3 a4 := by
  obtain ⟨h0, h1, h2, h3, h4⟩ := h
  exact ⟨by omega, by omega, by omega, by omega, by omega⟩
def El (l : List Int) (v : Nat) : Prop := ∃ u0 u1 u2 u3 u4 : Nat, l = nats [u0, u1, u2, u3, u4] ∧ Wid u0 u1 u2 u3 u4 ∧ val5 u0 u1 u2 u3 u4 % p25519 = v

theorem El.lt {l : List Int} {v : Nat} (h : El l v) : v < p25519 := by
  obtain ⟨u0, u1, u2, u3, u4, _, _, e⟩ := h
  rw [← e]; exact Nat.mod_lt _ (by decide)

theorem times_el {x y : List Int} {a b : Nat} (hx : El x a) (hy : El y b) : El (timesL x y) (a * b % p25519) := by
  obtain ⟨a0, a1, a2, a3, a4, rfl, ra, ea⟩ := hx
  obtain ⟨b0, b1, b2, b3, b4, rfl, rb, eb⟩ := hy
  obtain ⟨u0, u1, u2, u3, u4, e, r, h⟩ := times_nat ra.lim rb.lim
  refine ⟨u0, u1, u2, u3, u4, e, r.wid, ?_⟩
  rw [h, Nat.mul_mod, ea, eb]

theorem plus_el {x y : List Int} {a b : Nat} (hx : El x a) (hy : El y b) : El (plusL x y) ((a + b) % p25519) := by
  obtain ⟨a0, a1, a2, a3, a4, rfl, ra, ea⟩ := hx
  obtain ⟨b0, b1, b2, b3, b4, rfl, rb, eb⟩ := hy
  obtain ⟨h0, h1, h2, h3, h4⟩ := ra
  obtain ⟨k0, k1, k2, k3, k4⟩ := rb
  have e : plusL (nats [a0, a1, a2, a3, a4]) (nats [b0, b1, b2, b3, b4]) = carriedL (nats [a0 + b0, a1 + b1, a2 + b2, a3 + b3, a4 + b4]) := by
    refine (plus_eq (a0 : Int) (a1 : Int) (a2 : Int) (a3 : Int) (a4 : Int) (b0 : Int) (b1 : Int) (b2 : Int) (b3 : Int) (b4 : Int)).trans ?_
    rw [show IntKind.u64.wrap ((a0 : Int) + (b0 : Int)) = ((a0 + b0 : Nat) : Int) from w64 (n := a0 + b0) (by omega), show IntKind.u64.wrap ((a1 : Int) + (b1 : Int)) = ((a1 + b1 : Nat) : Int) from w64 (n := a1 + b1) (by omega), show IntKind.u64.wrap ((a2 : Int) + (b2 : Int)) = ((a2 + b2 : Nat) : Int) from w64 (n := a2 + b2) (by omega), show IntKind.u64.wrap ((a3 : Int) + (b3 : Int)) = ((a3 + b3 : Nat) : Int) from w64 (n := a3 + b3) (by omega), show IntKind.u64.wrap ((a4 : Int) + (b4 : Int)) = ((a4 + b4 : Nat) : Int) from w64 (n := a4 + b4) (by omega)]
    rfl
  rw [e]
  obtain ⟨u0, u1, u2, u3, u4, e, r, h⟩ := car_red (a0 := a0 + b0) (a1 := a1 + b1) (a2 := a2 + b2) (a3 := a3 + b3) (a4 := a4 + b4) (by omega) (by omega) (by omega) (by omega) (by omega)
  refine ⟨u0, u1, u2, u3, u4, e, r.wid, ?_⟩
  rw [h, ← ea, ← eb, ← Nat.add_mod]
  congr 1
  unfold val5; omega

theorem minus_el {x y : List Int} {a b : Nat} (hx : El x a) (hy : El y b) : El (minusL x y) ((a + (p25519 - b)) % p25519) := by
  have hb := hy.lt
  obtain ⟨a0, a1, a2, a3, a4, rfl, ra, ea⟩ := hx
  obtain ⟨b0, b1, b2, b3, b4, rfl, rb, eb⟩ := hy
  obtain ⟨h0, h1, h2, h3, h4⟩ := ra
  obtain ⟨k0, k1, k2, k3, k4⟩ := rb
  have e : minusL (nats [a0, a1, a2, a3, a4]) (nats [b0, b1, b2, b3, b4]) = carriedL (nats [a0 + (9007199254740916 - b0), a1 + (9007199254740988 - b1), a2 + (9007199254740988 - b2), a3 + (9007199254740988 - b3), a4 + (9007199254740988 - b4)]) := by
    refine (minus_eq (a0 : Int) (a1 : Int) (a2 : Int) (a3 : Int) (a4 : Int) (b0 : Int) (b1 : Int) (b2 : Int) (b3 : Int) (b4 : Int)).trans ?_
    rw [show IntKind.u64.wrap ((9007199254740916 : Int) - (b0 : Int)) = ((9007199254740916 - b0 : Nat) : Int) from (congrArg IntKind.u64.wrap (by omega)).trans (w64 (n := 9007199254740916 - b0) (by omega)), show IntKind.u64.wrap ((9007199254740988 : Int) - (b1 : Int)) = ((9007199254740988 - b1 : Nat) : Int) from (congrArg IntKind.u64.wrap (by omega)).trans (w64 (n := 9007199254740988 - b1) (by omega)), show IntKind.u64.wrap ((9007199254740988 : Int) - (b2 : Int)) = ((9007199254740988 - b2 : Nat) : Int) from (congrArg IntKind.u64.wrap (by omega)).trans (w64 (n := 9007199254740988 - b2) (by omega)), show IntKind.u64.wrap ((9007199254740988 : Int) - (b3 : Int)) = ((9007199254740988 - b3 : Nat) : Int) from (congrArg IntKind.u64.wrap (by omega)).trans (w64 (n := 9007199254740988 - b3) (by omega)), show IntKind.u64.wrap ((9007199254740988 : Int) - (b4 : Int)) = ((9007199254740988 - b4 : Nat) : Int) from (congrArg IntKind.u64.wrap (by omega)).trans (w64 (n := 9007199254740988 - b4) (by omega))]
    rw [show IntKind.u64.wrap ((a0 : Int) + ((9007199254740916 - b0 : Nat) : Int)) = ((a0 + (9007199254740916 - b0) : Nat) : Int) from w64 (n := a0 + (9007199254740916 - b0)) (by omega), show IntKind.u64.wrap ((a1 : Int) + ((9007199254740988 - b1 : Nat) : Int)) = ((a1 + (9007199254740988 - b1) : Nat) : Int) from w64 (n := a1 + (9007199254740988 - b1)) (by omega), show IntKind.u64.wrap ((a2 : Int) + ((9007199254740988 - b2 : Nat) : Int)) = ((a2 + (9007199254740988 - b2) : Nat) : Int) from w64 (n := a2 + (9007199254740988 - b2)) (by omega), show IntKind.u64.wrap ((a3 : Int) + ((9007199254740988 - b3 : Nat) : Int)) = ((a3 + (9007199254740988 - b3) : Nat) : Int) from w64 (n := a3 + (9007199254740988 - b3)) (by omega), show IntKind.u64.wrap ((a4 : Int) + ((9007199254740988 - b4 : Nat) : Int)) = ((a4 + (9007199254740988 - b4) : Nat) : Int) from w64 (n := a4 + (9007199254740988 - b4)) (by omega)]
    rfl
  rw [e]
  obtain ⟨u0, u1, u2, u3, u4, e, r, h⟩ := car_red (a0 := a0 + (9007199254740916 - b0)) (a1 := a1 + (9007199254740988 - b1)) (a2 := a2 + (9007199254740988 - b2)) (a3 := a3 + (9007199254740988 - b3)) (a4 := a4 + (9007199254740988 - b4)) (by omega) (by omega) (by omega) (by omega) (by omega)
  refine ⟨u0, u1, u2, u3, u4, e, r.wid, ?_⟩
  rw [h, ← ea, ← eb]
  have hv : val5 (a0 + (9007199254740916 - b0)) (a1 + (9007199254740988 - b1)) (a2 + (9007199254740988 - b2)) (a3 + (9007199254740988 - b3)) (a4 + (9007199254740988 - b4)) + val5 b0 b1 b2 b3 b4 = val5 a0 a1 a2 a3 a4 + 4 * p25519 := by
    unfold val5 p25519; omega
  generalize val5 (a0 + (9007199254740916 - b0)) (a1 + (9007199254740988 - b1)) (a2 + (9007199254740988 - b2)) (a3 + (9007199254740988 - b3)) (a4 + (9007199254740988 - b4)) = V at *
  generalize val5 a0 a1 a2 a3 a4 = A at *
  generalize val5 b0 b1 b2 b3 b4 = B at *
  unfold p25519 at *
  omega

/-! ### the least form -/

/-- the least form, of limbs that are carried -/
def lstI (c0 c1 c2 c3 c4 : Int) : List Int :=
  let s0 := IntKind.u64.wrap (c0 + 19)
  let s1 := IntKind.u64.wrap (c1 + shrI .u64 s0 51)
  let s2 := IntKind.u64.wrap (c2 + shrI .u64 s1 51)
  let s3 := IntKind.u64.wrap (c3 + shrI .u64 s2 51)
  let s4 := IntKind.u64.wrap (c4 + shrI .u64 s3 51)
  bif decide (shrI .u64 s4 51 > 0) then [andI .u64 s0 2251799813685247, andI .u64 s1 2251799813685247, andI .u64 s2 2251799813685247, andI .u64 s3 2251799813685247, andI .u64 s4 2251799813685247] else [c0, c1, c2, c3, c4]

def leastT' (cc : List Int) : Bool × List Int × List Int :=
 let v0 : Int := IntKind.u64.wrap (cc.getD (mulE (Int.toNat 0) 1) 0 + 19);
let v1 : List Int := cc.set (mulE (Int.toNat 0) 1) v0;
let v2 : Int := IntKind.i64.wrap (0 + 1);
let v3 : Int := shrI IntKind.u64 (v1.getD (mulE (Int.toNat 0) 1) 0) 51;
let v4 : Int := IntKind.u64.wrap (v1.getD (mulE v2.toNat 1) 0 + v3);
let v5 : List Int := v1.set (mulE v2.toNat 1) v4;
let v6 : Int := andI IntKind.u64 (v5.getD (mulE (Int.toNat 0) 1) 0) 2251799813685247;
let v7 : List Int := v5.set (mulE (Int.toNat 0) 1) v6;
let v8 : Int := IntKind.i64.wrap (v2 + 1);
let v9 : Int := shrI IntKind.u64 (v7.getD (mulE v2.toNat 1) 0) 51;
let v10 : Int := IntKind.u64.wrap (v7.getD (mulE v8.toNat 1) 0 + v9);
let v11 : List Int := v7.set (mulE v8.toNat 1) v10;
let v12 : Int := andI IntKind.u64 (v11.getD (mulE v2.toNat 1) 0) 2251799813685247;
let v13 : List Int := v11.set (mulE v2.toNat 1) v12;
let v14 : Int := IntKind.i64.wrap (v8 + 1);
let v15 : Int := shrI IntKind.u64 (v13.getD (mulE v8.toNat 1) 0) 51;
let v16 : Int := IntKind.u64.wrap (v13.getD (mulE v14.toNat 1) 0 + v15);
let v17 : List Int := v13.set (mulE v14.toNat 1) v16;
let v18 : Int := andI IntKind.u64 (v17.getD (mulE v8.toNat 1) 0) 2251799813685247;
let v19 : List Int := v17.set (mulE v8.toNat 1) v18;
let v20 : Int := IntKind.i64.wrap (v14 + 1);
let v21 : Int := shrI IntKind.u64 (v19.getD (mulE v14.toNat 1) 0) 51;
let v22 : Int := IntKind.u64.wrap (v19.getD (mulE v20.toNat 1) 0 + v21);
let v23 : List Int := v19.set (mulE v20.toNat 1) v22;
let v24 : Int := andI IntKind.u64 (v23.getD (mulE v14.toNat 1) 0) 2251799813685247;
let v25 : List Int := v23.set (mulE v14.toNat 1) v24;
let v26 : Int := shrI IntKind.u64 (v25.getD (mulE (Int.toNat 4) 1) 0) 51;
(Decidable.decide (v26 > 0),
 ( let v27 : Int := andI IntKind.u64 (v25.getD (mulE (Int.toNat 4) 1) 0) 2251799813685247;
 let v28 : List Int := v25.set (mulE (Int.toNat 4) 1) v27;
 v28),
 cc)
def leastV (cc : List Int) : List Int := bif (leastT' cc).1 then (leastT' cc).2.1 else (leastT' cc).2.2
theorem least_sel (x : List Int) : leastL x = bif (leastLT x).1 then (leastLT x).2.1 else (leastLT x).2.2 := by
  unfold leastL; rw [f67_form]; cases (leastLT x).1 <;> rfl
theorem least_sel' (x : List Int) : (bif (leastLT x).1 then (leastLT x).2.1 else (leastLT x).2.2) = leastV (carriedL (carriedL x)) := by kernel_rfl
theorem least_eq (x : List Int) : leastL x = leastV (carriedL (carriedL x)) := (least_sel x).trans (least_sel' x)
theorem leastV_eq (c0 c1 c2 c3 c4 : Int) : leastV [c0, c1, c2, c3, c4] = lstI c0 c1 c2 c3 c4 := by kernel_rfl

theorem least_el {x : List Int} {v : Nat} (hx : El x v) : ∃ u0 u1 u2 u3 u4 : Nat, leastL x = nats [u0, u1, u2, u3, u4] ∧ u0 < 2251799813685248 ∧ u1 < 2251799813685248 ∧ u2 < 2251799813685248 ∧ u3 < 2251799813685248 ∧ u4 < 2251799813685248 ∧ val5 u0 u1 u2 u3 u4 = v := by
  obtain ⟨a0, a1, a2, a3, a4, rfl, ra, ea⟩ := hx
  obtain ⟨h0, h1, h2, h3, h4⟩ := ra
  rw [least_eq]
  obtain ⟨v0, v1, v2, v3, v4, c, s, e, g0, g1, g2, g3, g4, hc, hs, hv⟩ := car_nat (a0 := a0) (a1 := a1) (a2 := a2) (a3 := a3) (a4 := a4) (by omega) (by omega) (by omega) (by omega) (by omega)
  have hc1 : c ≤ 3 := by unfold val5 p25519 at hv; omega
  have em := mod_of hv
  rw [e]; clear e hc hs hv
  obtain ⟨u0, u1, u2, u3, u4, c', s', e, k0, k1, k2, k3, k4, hc', hs', hv'⟩ := car_nat (a0 := v0 + 19 * c) (a1 := v1) (a2 := v2) (a3 := v3) (a4 := v4) (by omega) (by omega) (by omega) (by omega) (by omega)
  have k0' : u0 + 19 * c' < 2251799813685248 := by
    have : c' ≤ 1 := by unfold val5 p25519 at hv'; omega
    unfold val5 p25519 at hv'; omega
  have em' := mod_of hv'
  rw [em, ea] at em'
  rw [e]; clear e hc' hs' hv' em
  generalize u0 + 19 * c' = w0 at *
  clear c' k0 hc1 c
  rw [show leastV (nats [w0, u1, u2, u3, u4]) = _ from leastV_eq (w0 : Int) u1 u2 u3 u4]
  unfold lstI
  rw [show IntKind.u64.wrap ((w0 : Int) + 19) = ((w0 + 19 : Nat) : Int) from w64 (n := w0 + 19) (by omega)]
  dsimp only
  rw [shr51, and51 (by omega)]
  have d0 := Nat.div_add_mod (w0 + 19) 2251799813685248
  have m0 := Nat.mod_lt (w0 + 19) (show 2251799813685248 > 0 by decide)
  have q0 : (w0 + 19) / 2251799813685248 ≤ 1 := by omega
  generalize (w0 + 19) / 2251799813685248 = c0 at *
  generalize (w0 + 19) % 2251799813685248 = y0 at *
  rw [show IntKind.u64.wrap ((u1 : Int) + (c0 : Int)) = ((u1 + c0 : Nat) : Int) from w64 (n := u1 + c0) (by omega), shr51, and51 (by omega)]
  have d1 := Nat.div_add_mod (u1 + c0) 2251799813685248
  have m1 := Nat.mod_lt (u1 + c0) (show 2251799813685248 > 0 by decide)
  have q1 : (u1 + c0) / 2251799813685248 ≤ 1 := by omega
  generalize (u1 + c0) / 2251799813685248 = c1 at *
  generalize (u1 + c0) % 2251799813685248 = y1 at *
  rw [show IntKind.u64.wrap ((u2 : Int) + (c1 : Int)) = ((u2 + c1 : Nat) : Int) from w64 (n := u2 + c1) (by omega), shr51, and51 (by omega)]
  have d2 := Nat.div_add_mod (u2 + c1) 2251799813685248
  have m2 := Nat.mod_lt (u2 + c1) (show 2251799813685248 > 0 by decide)
  have q2 : (u2 + c1) / 2251799813685248 ≤ 1 := by omega
  generalize (u2 + c1) / 2251799813685248 = c2 at *
  generalize (u2 + c1) % 2251799813685248 = y2 at *
  rw [show IntKind.u64.wrap ((u3 : Int) + (c2 : Int)) = ((u3 + c2 : Nat) : Int) from w64 (n := u3 + c2) (by omega), shr51, and51 (by omega)]
  have d3 := Nat.div_add_mod (u3 + c2) 2251799813685248
  have m3 := Nat.mod_lt (u3 + c2) (show 2251799813685248 > 0 by decide)
  have q3 : (u3 + c2) / 2251799813685248 ≤ 1 := by omega
  generalize (u3 + c2) / 2251799813685248 = c3 at *
  generalize (u3 + c2) % 2251799813685248 = y3 at *
  rw [show IntKind.u64.wrap ((u4 : Int) + (c3 : Int)) = ((u4 + c3 : Nat) : Int) from w64 (n := u4 + c3) (by omega), shr51, and51 (by omega)]
  have d4 := Nat.div_add_mod (u4 + c3) 2251799813685248
  have m4 := Nat.mod_lt (u4 + c3) (show 2251799813685248 > 0 by decide)
  have q4 : (u4 + c3) / 2251799813685248 ≤ 1 := by omega
  generalize (u4 + c3) / 2251799813685248 = c4 at *
  generalize (u4 + c3) % 2251799813685248 = y4 at *
  by_cases hz : c4 = 0
  · rw [hz, show decide (((0 : Nat) : Int) > 0) = false from rfl, cond_false]
    refine ⟨w0, u1, u2, u3, u4, rfl, k0', k1, k2, k3, k4, ?_⟩
    rw [← em']
    symm
    apply Nat.mod_eq_of_lt
    unfold val5 p25519; omega
  · have h1 : c4 = 1 := by omega
    rw [h1, show decide (((1 : Nat) : Int) > 0) = true from rfl, cond_true]
    refine ⟨y0, y1, y2, y3, y4, rfl, m0, m1, m2, m3, m4, ?_⟩
    have hv : val5 w0 u1 u2 u3 u4 = val5 y0 y1 y2 y3 y4 + p25519 := by unfold val5 p25519; omega
    rw [← em', hv, Nat.add_mod_right]
    symm
    apply Nat.mod_eq_of_lt
    have : val5 y0 y1 y2 y3 y4 + p25519 < 2 * p25519 := by rw [← hv]; unfold val5 p25519; omega
    omega
end Go.Proofs.Ytcgolglcjfknpaa

/- Elements from bytes, and as bytes. -/
namespace Go.Proofs.Ytcgolglcjfknpaa
open Go Go.Eng
set_option maxRecDepth 100000

/-- the low part and a high part, put together -/
theorem orW {a b : Nat} (j : Nat) (hj : j ≤ 64) (ha : a < 2 ^ j) : orI .u64 (a : Int) (shlI .u64 (b : Int) (j : Int)) = ((a + b % 2 ^ (64 - j) * 2 ^ j : Nat) : Int) := by
  rw [show shlI .u64 (b : Int) (j : Int) = ((b * 2 ^ j % 2 ^ 64 : Nat) : Int) from shlN (k := .u64) rfl hj b]
  have e : b * 2 ^ j % 2 ^ 64 = b % 2 ^ (64 - j) * 2 ^ j := by
    rw [show (2 : Nat) ^ 64 = 2 ^ (64 - j) * 2 ^ j by rw [← Nat.pow_add]; congr 1; omega, Nat.mul_mod_mul_right]
  have h2 : (2 : Nat) ^ j ≤ 2 ^ 64 := Nat.pow_le_pow_right (by decide) hj
  refine (orN (k := .u64) rfl (Nat.lt_of_lt_of_le ha h2) (Nat.mod_lt _ (Nat.two_pow_pos 64))).trans ?_
  rw [show IntKind.u64.bits = 64 from rfl, e, or_addN' ha]

/-! ### as bytes -/
def feB (c : List Int) : List Int :=
 let v0 : Int := shlI IntKind.u64 (c.getD (mulE (Int.toNat 1) 1) 0) 51;
let v1 : Int := orI IntKind.u64 (c.getD (mulE (Int.toNat 0) 1) 0) v0;
let v2 : List Int := (List.replicate 4 0).set 0 v1;
let v3 : Int := shrI IntKind.u64 (c.getD (mulE (Int.toNat 1) 1) 0) 13;
let v4 : Int := shlI IntKind.u64 (c.getD (mulE (Int.toNat 2) 1) 0) 38;
let v5 : Int := orI IntKind.u64 v3 v4;
let v6 : List Int := v2.set 1 v5;
let v7 : Int := shrI IntKind.u64 (c.getD (mulE (Int.toNat 2) 1) 0) 26;
let v8 : Int := shlI IntKind.u64 (c.getD (mulE (Int.toNat 3) 1) 0) 25;
let v9 : Int := orI IntKind.u64 v7 v8;
let v10 : List Int := v6.set 2 v9;
let v11 : Int := shrI IntKind.u64 (c.getD (mulE (Int.toNat 3) 1) 0) 39;
let v12 : Int := shlI IntKind.u64 (c.getD (mulE (Int.toNat 4) 1) 0) 12;
let v13 : Int := orI IntKind.u64 v11 v12;
let v14 : List Int := v10.set 3 v13;
let v15 : Int := IntKind.i64.wrap (Int.tdiv 0 8);
let v16 : Int := IntKind.i64.wrap (8 * Int.tmod 0 8);
let v17 : Int := shrI IntKind.u64 (v14.getD (mulE v15.toNat 1) 0) v16;
let v18 : Int := IntKind.u8.wrap v17;
let v19 : List Int := (List.replicate 32 0).set (mulE (Int.toNat 0) 1) v18;
let v20 : Int := IntKind.i64.wrap (0 + 1);
let v21 : Int := IntKind.i64.wrap (v20.tdiv 8);
let v22 : Int := IntKind.i64.wrap (8 * v20.tmod 8);
let v23 : Int := shrI IntKind.u64 (v14.getD (mulE v21.toNat 1) 0) v22;
let v24 : Int := IntKind.u8.wrap v23;
let v25 : List Int := v19.set (mulE v20.toNat 1) v24;
let v26 : Int := IntKind.i64.wrap (v20 + 1);
let v27 : Int := IntKind.i64.wrap (v26.tdiv 8);
let v28 : Int := IntKind.i64.wrap (8 * v26.tmod 8);
let v29 : Int := shrI IntKind.u64 (v14.getD (mulE v27.toNat 1) 0) v28;
let v30 : Int := IntKind.u8.wrap v29;
let v31 : List Int := v25.set (mulE v26.toNat 1) v30;
let v32 : Int := IntKind.i64.wrap (v26 + 1);
let v33 : Int := IntKind.i64.wrap (v32.tdiv 8);
let v34 : Int := IntKind.i64.wrap (8 * v32.tmod 8);
let v35 : Int := shrI IntKind.u64 (v14.getD (mulE v33.toNat 1) 0) v34;
let v36 : Int := IntKind.u8.wrap v35;
let v37 : List Int := v31.set (mulE v32.toNat 1) v36;
let v38 : Int := IntKind.i64.wrap (v32 + 1);
let v39 : Int := IntKind.i64.wrap (v38.tdiv 8);
let v40 : Int := IntKind.i64.wrap (8 * v38.tmod 8);
let v41 : Int := shrI IntKind.u64 (v14.getD (mulE v39.toNat 1) 0) v40;
let v42 : Int := IntKind.u8.wrap v41;
let v43 : List Int := v37.set (mulE v38.toNat 1) v42;
let v44 : Int := IntKind.i64.wrap (v38 + 1);
let v45 : Int := IntKind.i64.wrap (v44.tdiv 8);
let v46 : Int := IntKind.i64.wrap (8 * v44.tmod 8);
let v47 : Int := shrI IntKind.u64 (v14.getD (mulE v45.toNat 1) 0) v46;
let v48 : Int := IntKind.u8.wrap v47;
let v49 : List Int := v43.set (mulE v44.toNat 1) v48;
let v50 : Int := IntKind.i64.wrap (v44 + 1);
let v51 : Int := IntKind.i64.wrap (v50.tdiv 8);
let v52 : Int := IntKind.i64.wrap (8 * v50.tmod 8);
let v53 : Int := shrI IntKind.u64 (v14.getD (mulE v51.toNat 1) 0) v52;
let v54 : Int := IntKind.u8.wrap v53;
let v55 : List Int := v49.set (mulE v50.toNat 1) v54;
let v56 : Int := IntKind.i64.wrap (v50 + 1);
let v57 : Int := IntKind.i64.wrap (v56.tdiv 8);
let v58 : Int := IntKind.i64.wrap (8 * v56.tmod 8);
let v59 : Int := shrI IntKind.u64 (v14.getD (mulE v57.toNat 1) 0) v58;
let v60 : Int := IntKind.u8.wrap v59;
let v61 : List Int := v55.set (mulE v56.toNat 1) v60;
let v62 : Int := IntKind.i64.wrap (v56 + 1);
let v63 : Int := IntKind.i64.wrap (v62.tdiv 8);
let v64 : Int := IntKind.i64.wrap (8 * v62.tmod 8);
let v65 : Int := shrI IntKind.u64 (v14.getD (mulE v63.toNat 1) 0) v64;
let v66 : Int := IntKind.u8.wrap v65;
let v67 : List Int := v61.set (mulE v62.toNat 1) v66;
let v68 : Int := IntKind.i64.wrap (v62 + 1);
let v69 : Int := IntKind.i64.wrap (v68.tdiv 8);
let v70 : Int := IntKind.i64.wrap (8 * v68.tmod 8);
let v71 : Int := shrI IntKind.u64 (v14.getD (mulE v69.toNat 1) 0) v70;
let v72 : Int := IntKind.u8.wrap v71;
let v73 : List Int := v67.set (mulE v68.toNat 1) v72;
let v74 : Int := IntKind.i64.wrap (v68 + 1);
let v75 : Int := IntKind.i64.wrap (v74.tdiv 8);
let v76 : Int := IntKind.i64.wrap (8 * v74.tmod 8);
let v77 : Int := shrI IntKind.u64 (v14.getD (mulE v75.toNat 1) 0) v76;
let v78 : Int := IntKind.u8.wrap v77;
let v79 : List Int := v73.set (mulE v74.toNat 1) v78;
let v80 : Int := IntKind.i64.wrap (v74 + 1);
let v81 : Int := IntKind.i64.wrap (v80.tdiv 8);
let v82 : Int := IntKind.i64.wrap (8 * v80.tmod 8);
let v83 : Int := shrI IntKind.u64 (v14.getD (mulE v81.toNat 1) 0) v82;
let v84 : Int := IntKind.u8.wrap v83;
let v85 : List Int := v79.set (mulE v80.toNat 1) v84;
let v86 : Int := IntKind.i64.wrap (v80 + 1);
let v87 : Int := IntKind.i64.wrap (v86.tdiv 8);
let v88 : Int := IntKind.i64.wrap (8 * v86.tmod 8);
let v89 : Int := shrI IntKind.u64 (v14.getD (mulE v87.toNat 1) 0) v88;
let v90 : Int := IntKind.u8.wrap v89;
let v91 : List Int := v85.set (mulE v86.toNat 1) v90;
let v92 : Int := IntKind.i64.wrap (v86 + 1);
let v93 : Int := IntKind.i64.wrap (v92.tdiv 8);
let v94 : Int := IntKind.i64.wrap (8 * v92.tmod 8);
let v95 : Int := shrI IntKind.u64 (v14.getD (mulE v93.toNat 1) 0) v94;
let v96 : Int := IntKind.u8.wrap v95;
let v97 : List Int := v91.set (mulE v92.toNat 1) v96;
let v98 : Int := IntKind.i64.wrap (v92 + 1);
let v99 : Int := IntKind.i64.wrap (v98.tdiv 8);
let v100 : Int := IntKind.i64.wrap (8 * v98.tmod 8);
let v101 : Int := shrI IntKind.u64 (v14.getD (mulE v99.toNat 1) 0) v100;
let v102 : Int := IntKind.u8.wrap v101;
let v103 : List Int := v97.set (mulE v98.toNat 1) v102;
let v104 : Int := IntKind.i64.wrap (v98 + 1);
let v105 : Int := IntKind.i64.wrap (v104.tdiv 8);
let v106 : Int := IntKind.i64.wrap (8 * v104.tmod 8);
let v107 : Int := shrI IntKind.u64 (v14.getD (mulE v105.toNat 1) 0) v106;
let v108 : Int := IntKind.u8.wrap v107;
let v109 : List Int := v103.set (mulE v104.toNat 1) v108;
let v110 : Int := IntKind.i64.wrap (v104 + 1);
let v111 : Int := IntKind.i64.wrap (v110.tdiv 8);
let v112 : Int := IntKind.i64.wrap (8 * v110.tmod 8);
let v113 : Int := shrI IntKind.u64 (v14.getD (mulE v111.toNat 1) 0) v112;
let v114 : Int := IntKind.u8.wrap v113;
let v115 : List Int := v109.set (mulE v110.toNat 1) v114;
let v116 : Int := IntKind.i64.wrap (v110 + 1);
let v117 : Int := IntKind.i64.wrap (v116.tdiv 8);
let v118 : Int := IntKind.i64.wrap (8 * v116.tmod 8);
let v119 : Int := shrI IntKind.u64 (v14.getD (mulE v117.toNat 1) 0) v118;
let v120 : Int := IntKind.u8.wrap v119;
let v121 : List Int := v115.set (mulE v116.toNat 1) v120;
let v122 : Int := IntKind.i64.wrap (v116 + 1);
let v123 : Int := IntKind.i64.wrap (v122.tdiv 8);
let v124 : Int := IntKind.i64.wrap (8 * v122.tmod 8);
let v125 : Int := shrI IntKind.u64 (v14.getD (mulE v123.toNat 1) 0) v124;
let v126 : Int := IntKind.u8.wrap v125;
let v127 : List Int := v121.set (mulE v122.toNat 1) v126;
let v128 : Int := IntKind.i64.wrap (v122 + 1);
let v129 : Int := IntKind.i64.wrap (v128.tdiv 8);
let v130 : Int := IntKind.i64.wrap (8 * v128.tmod 8);
let v131 : Int := shrI IntKind.u64 (v14.getD (mulE v129.toNat 1) 0) v130;
let v132 : Int := IntKind.u8.wrap v131;
let v133 : List Int := v127.set (mulE v128.toNat 1) v132;
let v134 : Int := IntKind.i64.wrap (v128 + 1);
let v135 : Int := IntKind.i64.wrap (v134.tdiv 8);
let v136 : Int := IntKind.i64.wrap (8 * v134.tmod 8);
let v137 : Int := shrI IntKind.u64 (v14.getD (mulE v135.toNat 1) 0) v136;
let v138 : Int := IntKind.u8.wrap v137;
let v139 : List Int := v133.set (mulE v134.toNat 1) v138;
let v140 : Int := IntKind.i64.wrap (v134 + 1);
let v141 : Int := IntKind.i64.wrap (v140.tdiv 8);
let v142 : Int := IntKind.i64.wrap (8 * v140.tmod 8);
let v143 : Int := shrI IntKind.u64 (v14.getD (mulE v141.toNat 1) 0) v142;
let v144 : Int := IntKind.u8.wrap v143;
let v145 : List Int := v139.set (mulE v140.toNat 1) v144;
let v146 : Int := IntKind.i64.wrap (v140 + 1);
let v147 : Int := IntKind.i64.wrap (v146.tdiv 8);
let v148 : Int := IntKind.i64.wrap (8 * v146.tmod 8);
let v149 : Int := shrI IntKind.u64 (v14.getD (mulE v147.toNat 1) 0) v148;
let v150 : Int := IntKind.u8.wrap v149;
let v151 : List Int := v145.set (mulE v146.toNat 1) v150;
let v152 : Int := IntKind.i64.wrap (v146 + 1);
let v153 : Int := IntKind.i64.wrap (v152.tdiv 8);
let v154 : Int := IntKind.i64.wrap (8 * v152.tmod 8);
let v155 : Int := shrI IntKind.u64 (v14.getD (mulE v153.toNat 1) 0) v154;
let v156 : Int := IntKind.u8.wrap v155;
let v157 : List Int := v151.set (mulE v152.toNat 1) v156;
let v158 : Int := IntKind.i64.wrap (v152 + 1);
let v159 : Int := IntKind.i64.wrap (v158.tdiv 8);
let v160 : Int := IntKind.i64.wrap (8 * v158.tmod 8);
let v161 : Int := shrI IntKind.u64 (v14.getD (mulE v159.toNat 1) 0) v160;
let v162 : Int := IntKind.u8.wrap v161;
let v163 : List Int := v157.set (mulE v158.toNat 1) v162;
let v164 : Int := IntKind.i64.wrap (v158 + 1);
let v165 : Int := IntKind.i64.wrap (v164.tdiv 8);
let v166 : Int := IntKind.i64.wrap (8 * v164.tmod 8);
let v167 : Int := shrI IntKind.u64 (v14.getD (mulE v165.toNat 1) 0) v166;
let v168 : Int := IntKind.u8.wrap v167;
let v169 : List Int := v163.set (mulE v164.toNat 1) v168;
let v170 : Int := IntKind.i64.wrap (v164 + 1);
let v171 : Int := IntKind.i64.wrap (v170.tdiv 8);
let v172 : Int := IntKind.i64.wrap (8 * v170.tmod 8);
let v173 : Int := shrI IntKind.u64 (v14.getD (mulE v171.toNat 1) 0) v172;
let v174 : Int := IntKind.u8.wrap v173;
let v175 : List Int := v169.set (mulE v170.toNat 1) v174;
let v176 : Int := IntKind.i64.wrap (v170 + 1);
let v177 : Int := IntKind.i64.wrap (v176.tdiv 8);
let v178 : Int := IntKind.i64.wrap (8 * v176.tmod 8);
let v179 : Int := shrI IntKind.u64 (v14.getD (mulE v177.toNat 1) 0) v178;
let v180 : Int := IntKind.u8.wrap v179;
let v181 : List Int := v175.set (mulE v176.toNat 1) v180;
let v182 : Int := IntKind.i64.wrap (v176 + 1);
let v183 : Int := IntKind.i64.wrap (v182.tdiv 8);
let v184 : Int := IntKind.i64.wrap (8 * v182.tmod 8);
let v185 : Int := shrI IntKind.u64 (v14.getD (mulE v183.toNat 1) 0) v184;
let v186 : Int := IntKind.u8.wrap v185;
let v187 : List Int := v181.set (mulE v182.toNat 1) v186;
let v188 : Int := IntKind.i64.wrap (v182 + 1);
let v189 : Int := IntKind.i64.wrap (v188.tdiv 8);
let v190 : Int := IntKind.i64.wrap (8 * v188.tmod 8);
let v191 : Int := shrI IntKind.u64 (v14.getD (mulE v189.toNat 1) 0) v190;
let v192 : Int := IntKind.u8.wrap v191;
let v193 : List Int := v187.set (mulE v188.toNat 1) v192;
let v194 : Int := IntKind.i64.wrap (v188 + 1);
let v195 : Int := IntKind.i64.wrap (v194.tdiv 8);
let v196 : Int := IntKind.i64.wrap (8 * v194.tmod 8);
let v197 : Int := shrI IntKind.u64 (v14.getD (mulE v195.toNat 1) 0) v196;
let v198 : Int := IntKind.u8.wrap v197;
let v199 : List Int := v193.set (mulE v194.toNat 1) v198;
let v200 : Int := IntKind.i64.wrap (v194 + 1);
let v201 : Int := IntKind.i64.wrap (v200.tdiv 8);
let v202 : Int := IntKind.i64.wrap (8 * v200.tmod 8);
let v203 : Int := shrI IntKind.u64 (v14.getD (mulE v201.toNat 1) 0) v202;
let v204 : Int := IntKind.u8.wrap v203;
let v205 : List Int := v199.set (mulE v200.toNat 1) v204;
v205
theorem feR_eq (x : List Int) : feR x = feB (leastL x) := by kernel_rfl
theorem fe_eq (x : List Int) : feL x = feB (leastL x) := (feL_eq x).trans (feR_eq x)
def bytesW (w0 w1 w2 w3 : Int) : List Int := [IntKind.u8.wrap (shrI .u64 w0 0), IntKind.u8.wrap (shrI .u64 w0 8), IntKind.u8.wrap (shrI .u64 w0 16), IntKind.u8.wrap (shrI .u64 w0 24), IntKind.u8.wrap (shrI .u64 w0 32), IntKind.u8.wrap (shrI .u64 w0 40), IntKind.u8.wrap (shrI .u64 w0 48), IntKind.u8.wrap (shrI .u64 w0 56), IntKind.u8.wrap (shrI .u64 w1 0), IntKind.u8.wrap (shrI .u64 w1 8), IntKind.u8.wrap (shrI .u64 w1 16), IntKind.u8.wrap (shrI .u64 w1 24), IntKind.u8.wrap (shrI .u64 w1 32), IntKind.u8.wrap (shrI .u64 w1 40), IntKind.u8.wrap (shrI .u64 w1 48), IntKind.u8.wrap (shrI .u64 w1 56), IntKind.u8.wrap (shrI .u64 w2 0), IntKind.u8.wrap (shrI .u64 w2 8), IntKind.u8.wrap (shrI .u64 w2 16), IntKind.u8.wrap (shrI .u64 w2 24), IntKind.u8.wrap (shrI .u64 w2 32), IntKind.u8.wrap (shrI .u64 w2 40), IntKind.u8.wrap (shrI .u64 w2 48), IntKind.u8.wrap (shrI .u64 w2 56), IntKind.u8.wrap (shrI .u64 w3 0), IntKind.u8.wrap (shrI .u64 w3 8), IntKind.u8.wrap (shrI .u64 w3 16), IntKind.u8.wrap (shrI .u64 w3 24), IntKind.u8.wrap (shrI .u64 w3 32), IntKind.u8.wrap (shrI .u64 w3 40), IntKind.u8.wrap (shrI .u64 w3 48), IntKind.u8.wrap (shrI .u64 w3 56)]
theorem feB_eq (c0 c1 c2 c3 c4 : Int) : feB [c0, c1, c2, c3, c4] = bytesW (orI .u64 c0 (shlI .u64 c1 51)) (orI .u64 (shrI .u64 c1 13) (shlI .u64 c2 38)) (orI .u64 (shrI .u64 c2 26) (shlI .u64 c3 25)) (orI .u64 (shrI .u64 c3 39) (shlI .u64 c4 12)) := by kernel_rfl
theorem byteW (w i : Nat) (hi : i ≤ 64) : IntKind.u8.wrap (shrI .u64 (w : Int) (i : Int)) = ((w / 2 ^ i % 256 : Nat) : Int) := by
  rw [shrN (k := .u64) hi, wm8]
theorem digs32 (v : Nat) : digs 256 32 v = [v / 1 % 256, v / 256 % 256, v / 65536 % 256, v / 16777216 % 256, v / 4294967296 % 256, v / 1099511627776 % 256, v / 281474976710656 % 256, v / 72057594037927936 % 256, v / 18446744073709551616 % 256, v / 4722366482869645213696 % 256, v / 1208925819614629174706176 % 256, v / 309485009821345068724781056 % 256, v / 79228162514264337593543950336 % 256, v / 20282409603651670423947251286016 % 256, v / 5192296858534827628530496329220096 % 256, v / 1329227995784915872903807060280344576 % 256, v / 340282366920938463463374607431768211456 % 256, v / 87112285931760246646623899502532662132736 % 256, v / 22300745198530623141535718272648361505980416 % 256, v / 5708990770823839524233143877797980545530986496 % 256, v / 1461501637330902918203684832716283019655932542976 % 256, v / 374144419156711147060143317175368453031918731001856 % 256, v / 95780971304118053647396689196894323976171195136475136 % 256, v / 24519928653854221733733552434404946937899825954937634816 % 256, v / 6277101735386680763835789423207666416102355444464034512896 % 256, v / 1606938044258990275541962092341162602522202993782792835301376 % 256, v / 411376139330301510538742295639337626245683966408394965837152256 % 256, v / 105312291668557186697918027683670432318895095400549111254310977536 % 256, v / 26959946667150639794667015087019630673637144422540572481103610249216 % 256, v / 6901746346790563787434755862277025452451108972170386555162524223799296 % 256, v / 1766847064778384329583297500742918515827483896875618958121606201292619776 % 256, v / 452312848583266388373324160190187140051835877600158453279131187530910662656 % 256] := by
  simp [digs, Nat.div_div_eq_div_mul]
theorem fe_el {x : List Int} {v : Nat} (hx : El x v) : feL x = nats (digs 256 32 v) := by
  obtain ⟨c0, c1, c2, c3, c4, e, h0, h1, h2, h3, h4, hv⟩ := least_el hx
  rw [fe_eq, e]
  refine (feB_eq c0 c1 c2 c3 c4).trans ?_
  rw [show orI .u64 (c0 : Int) (shlI .u64 (c1 : Int) 51) = ((c0 + c1 % 8192 * 2251799813685248 : Nat) : Int) from orW 51 (by decide) (by omega)]
  rw [show shrI .u64 (c1 : Int) 13 = ((c1 / 8192 : Nat) : Int) from shrN (k := .u64) (m := 13) (by decide) c1]
  rw [show shrI .u64 (c2 : Int) 26 = ((c2 / 67108864 : Nat) : Int) from shrN (k := .u64) (m := 26) (by decide) c2]
  rw [show shrI .u64 (c3 : Int) 39 = ((c3 / 549755813888 : Nat) : Int) from shrN (k := .u64) (m := 39) (by decide) c3]
  rw [show orI .u64 ((c1 / 8192 : Nat) : Int) (shlI .u64 (c2 : Int) 38) = ((c1 / 8192 + c2 % 67108864 * 274877906944 : Nat) : Int) from orW 38 (by decide) (by omega)]
  rw [show orI .u64 ((c2 / 67108864 : Nat) : Int) (shlI .u64 (c3 : Int) 25) = ((c2 / 67108864 + c3 % 549755813888 * 33554432 : Nat) : Int) from orW 25 (by decide) (by omega)]
  rw [show orI .u64 ((c3 / 549755813888 : Nat) : Int) (shlI .u64 (c4 : Int) 12) = ((c3 / 549755813888 + c4 % 4503599627370496 * 4096 : Nat) : Int) from orW 12 (by decide) (by omega)]
  have e0 : c0 + c1 % 8192 * 2251799813685248 = v % 18446744073709551616 := by rw [← hv]; unfold val5; omega
  have e1 : c1 / 8192 + c2 % 67108864 * 274877906944 = v / 18446744073709551616 % 18446744073709551616 := by rw [← hv]; unfold val5; omega
  have e2 : c2 / 67108864 + c3 % 549755813888 * 33554432 = v / 340282366920938463463374607431768211456 % 18446744073709551616 := by rw [← hv]; unfold val5; omega
  have e3 : c3 / 549755813888 + c4 % 4503599627370496 * 4096 = v / 6277101735386680763835789423207666416102355444464034512896 := by rw [← hv]; unfold val5; omega
  rw [e0, e1, e2, e3, digs32]
  clear e0 e1 e2 e3 hv h0 h1 h2 h3 h4 e hx
  unfold bytesW
  rw [show IntKind.u8.wrap (shrI .u64 ((v % 18446744073709551616 : Nat) : Int) 0) = ((v / 1 % 256 : Nat) : Int) from (byteW _ 0 (by decide)).trans (congrArg Int.ofNat (show (v % 18446744073709551616) / 1 % 256 = v / 1 % 256 by omega)),
    show IntKind.u8.wrap (shrI .u64 ((v % 18446744073709551616 : Nat) : Int) 8) = ((v / 256 % 256 : Nat) : Int) from (byteW _ 8 (by decide)).trans (congrArg Int.ofNat (show (v % 18446744073709551616) / 256 % 256 = v / 256 % 256 by omega)),
    show IntKind.u8.wrap (shrI .u64 ((v % 18446744073709551616 : Nat) : Int) 16) = ((v / 65536 % 256 : Nat) : Int) from (byteW _ 16 (by decide)).trans (congrArg Int.ofNat (show (v % 18446744073709551616) / 65536 % 256 = v / 65536 % 256 by omega)),
    show IntKind.u8.wrap (shrI .u64 ((v % 18446744073709551616 : Nat) : Int) 24) = ((v / 16777216 % 256 : Nat) : Int) from (byteW _ 24 (by decide)).trans (congrArg Int.ofNat (show (v % 18446744073709551616) / 16777216 % 256 = v / 16777216 % 256 by omega)),
    show IntKind.u8.wrap (shrI .u64 ((v % 18446744073709551616 : Nat) : Int) 32) = ((v / 4294967296 % 256 : Nat) : Int) from (byteW _ 32 (by decide)).trans (congrArg Int.ofNat (show (v % 18446744073709551616) / 4294967296 % 256 = v / 4294967296 % 256 by omega)),
    show IntKind.u8.wrap (shrI .u64 ((v % 18446744073709551616 : Nat) : Int) 40) = ((v / 1099511627776 % 256 : Nat) : Int) from (byteW _ 40 (by decide)).trans (congrArg Int.ofNat (show (v % 18446744073709551616) / 1099511627776 % 256 = v / 1099511627776 % 256 by omega)),
    show IntKind.u8.wrap (shrI .u64 ((v % 18446744073709551616 : Nat) : Int) 48) = ((v / 281474976710656 % 256 : Nat) : Int) from (byteW _ 48 (by decide)).trans (congrArg Int.ofNat (show (v % 18446744073709551616) / 281474976710656 % 256 = v / 281474976710656 % 256 by omega)),
    show IntKind.u8.wrap (shrI .u64 ((v % 18446744073709551616 : Nat) : Int) 56) = ((v / 72057594037927936 % 256 : Nat) : Int) from (byteW _ 56 (by decide)).trans (congrArg Int.ofNat (show (v % 18446744073709551616) / 72057594037927936 % 256 = v / 72057594037927936 % 256 by omega)),
    show IntKind.u8.wrap (shrI .u64 ((v / 18446744073709551616 % 18446744073709551616 : Nat) : Int) 0) = ((v / 18446744073709551616 % 256 : Nat) : Int) from (byteW _ 0 (by decide)).trans (congrArg Int.ofNat (show (v / 18446744073709551616 % 18446744073709551616) / 1 % 256 = v / 18446744073709551616 % 256 by omega)),
    show IntKind.u8.wrap (shrI .u64 ((v / 18446744073709551616 % 18446744073709551616 : Nat) : Int) 8) = ((v / 4722366482869645213696 % 256 : Nat) : Int) from (byteW _ 8 (by decide)).trans (congrArg Int.ofNat (show (v / 18446744073709551616 % 18446744073709551616) / 256 % 256 = v / 4722366482869645213696 % 256 by omega)),
    show IntKind.u8.wrap (shrI .u64 ((v / 18446744073709551616 % 18446744073709551616 : Nat) : Int) 16) = ((v / 1208925819614629174706176 % 256 : Nat) : Int) from (byteW _ 16 (by decide)).trans (congrArg Int.ofNat (show (v / 18446744073709551616 % 18446744073709551616) / 65536 % 256 = v / 1208925819614629174706176 % 256 by omega)),
    show IntKind.u8.wrap (shrI .u64 ((v / 18446744073709551616 % 18446744073709551616 : Nat) : Int) 24) = ((v / 309485009821345068724781056 % 256 : Nat) : Int) from (byteW _ 24 (by decide)).trans (congrArg Int.ofNat (show (v / 18446744073709551616 % 18446744073709551616) / 16777216 % 256 = v / 309485009821345068724781056 % 256 by omega)),
    show IntKind.u8.wrap (shrI .u64 ((v / 18446744073709551616 % 18446744073709551616 : Nat) : Int) 32) = ((v / 79228162514264337593543950336 % 256 : Nat) : Int) from (byteW _ 32 (by decide)).trans (congrArg Int.ofNat (show (v / 18446744073709551616 % 18446744073709551616) / 4294967296 % 256 = v / 79228162514264337593543950336 % 256 by omega)),
    show IntKind.u8.wrap (shrI .u64 ((v / 18446744073709551616 % 18446744073709551616 : Nat) : Int) 40) = ((v / 20282409603651670423947251286016 % 256 : Nat) : Int) from (byteW _ 40 (by decide)).trans (congrArg Int.ofNat (show (v / 18446744073709551616 % 18446744073709551616) / 1099511627776 % 256 = v / 20282409603651670423947251286016 % 256 by omega)),
    show IntKind.u8.wrap (shrI .u64 ((v / 18446744073709551616 % 18446744073709551616 : Nat) : Int) 48) = ((v / 5192296858534827628530496329220096 % 256 : Nat) : Int) from (byteW _ 48 (by decide)).trans (congrArg Int.ofNat (show (v / 18446744073709551616 % 18446744073709551616) / 281474976710656 % 256 = v / 5192296858534827628530496329220096 % 256 by omega)),
    show IntKind.u8.wrap (shrI .u64 ((v / 18446744073709551616 % 18446744073709551616 : Nat) : Int) 56) = ((v / 1329227995784915872903807060280344576 % 256 : Nat) : Int) from (byteW _ 56 (by decide)).trans (congrArg Int.ofNat (show (v / 18446744073709551616 % 18446744073709551616) / 72057594037927936 % 256 = v / 1329227995784915872903807060280344576 % 256 by omega)),
    show IntKind.u8.wrap (shrI .u64 ((v / 340282366920938463463374607431768211456 % 18446744073709551616 : Nat) : Int) 0) = ((v / 340282366920938463463374607431768211456 % 256 : Nat) : Int) from (byteW _ 0 (by decide)).trans (congrArg Int.ofNat (show (v / 340282366920938463463374607431768211456 % 18446744073709551616) / 1 % 256 = v / 340282366920938463463374607431768211456 % 256 by omega)),
    show IntKind.u8.wrap (shrI .u64 ((v / 340282366920938463463374607431768211456 % 18446744073709551616 : Nat) : Int) 8) = ((v / 87112285931760246646623899502532662132736 % 256 : Nat) : Int) from (byteW _ 8 (by decide)).trans (congrArg Int.ofNat (show (v / 340282366920938463463374607431768211456 % 18446744073709551616) / 256 % 256 = v / 87112285931760246646623899502532662132736 % 256 by omega)),
    show IntKind.u8.wrap (shrI .u64 ((v / 340282366920938463463374607431768211456 % 18446744073709551616 : Nat) : Int) 16) = ((v / 22300745198530623141535718272648361505980416 % 256 : Nat) : Int) from (byteW _ 16 (by decide)).trans (congrArg Int.ofNat (show (v / 340282366920938463463374607431768211456 % 18446744073709551616) / 65536 % 256 = v / 22300745198530623141535718272648361505980416 % 256 by omega)),
    show IntKind.u8.wrap (shrI .u64 ((v / 340282366920938463463374607431768211456 % 18446744073709551616 : Nat) : Int) 24) = ((v / 5708990770823839524233143877797980545530986496 % 256 : Nat) : Int) from (byteW _ 24 (by decide)).trans (congrArg Int.ofNat (show (v / 340282366920938463463374607431768211456 % 18446744073709551616) / 16777216 % 256 = v / 5708990770823839524233143877797980545530986496 % 256 by omega)),
    show IntKind.u8.wrap (shrI .u64 ((v / 340282366920938463463374607431768211456 % 18446744073709551616 : Nat) : Int) 32) = ((v / 1461501637330902918203684832716283019655932542976 % 256 : Nat) : Int) from (byteW _ 32 (by decide)).trans (congrArg Int.ofNat (show (v / 340282366920938463463374607431768211456 % 18446744073709551616) / 4294967296 % 256 = v / 1461501637330902918203684832716283019655932542976 % 256 by omega)),
    show IntKind.u8.wrap (shrI .u64 ((v / 340282366920938463463374607431768211456 % 18446744073709551616 : Nat) : Int) 40) = ((v / 374144419156711147060143317175368453031918731001856 % 256 : Nat) : Int) from (byteW _ 40 (by decide)).trans (congrArg Int.ofNat (show (v / 340282366920938463463374607431768211456 % 18446744073709551616) / 1099511627776 % 256 = v / 374144419156711147060143317175368453031918731001856 % 256 by omega)),
    show IntKind.u8.wrap (shrI .u64 ((v / 340282366920938463463374607431768211456 % 18446744073709551616 : Nat) : Int) 48) = ((v / 95780971304118053647396689196894323976171195136475136 % 256 : Nat) : Int) from (byteW _ 48 (by decide)).trans (congrArg Int.ofNat (show (v / 340282366920938463463374607431768211456 % 18446744073709551616) / 281474976710656 % 256 = v / 95780971304118053647396689196894323976171195136475136 % 256 by omega)),
    show IntKind.u8.wrap (shrI .u64 ((v / 340282366920938463463374607431768211456 % 18446744073709551616 : Nat) : Int) 56) = ((v / 24519928653854221733733552434404946937899825954937634816 % 256 : Nat) : Int) from (byteW _ 56 (by decide)).trans (congrArg Int.ofNat (show (v / 340282366920938463463374607431768211456 % 18446744073709551616) / 72057594037927936 % 256 = v / 24519928653854221733733552434404946937899825954937634816 % 256 by omega)),
    show IntKind.u8.wrap (shrI .u64 ((v / 6277101735386680763835789423207666416102355444464034512896 : Nat) : Int) 0) = ((v / 6277101735386680763835789423207666416102355444464034512896 % 256 : Nat) : Int) from (byteW _ 0 (by decide)).trans (congrArg Int.ofNat (show (v / 6277101735386680763835789423207666416102355444464034512896) / 1 % 256 = v / 6277101735386680763835789423207666416102355444464034512896 % 256 by omega)),
    show IntKind.u8.wrap (shrI .u64 ((v / 6277101735386680763835789423207666416102355444464034512896 : Nat) : Int) 8) = ((v / 1606938044258990275541962092341162602522202993782792835301376 % 256 : Nat) : Int) from (byteW _ 8 (by decide)).trans (congrArg Int.ofNat (show (v / 6277101735386680763835789423207666416102355444464034512896) / 256 % 256 = v / 1606938044258990275541962092341162602522202993782792835301376 % 256 by omega)),
    show IntKind.u8.wrap (shrI .u64 ((v / 6277101735386680763835789423207666416102355444464034512896 : Nat) : Int) 16) = ((v / 411376139330301510538742295639337626245683966408394965837152256 % 256 : Nat) : Int) from (byteW _ 16 (by decide)).trans (congrArg Int.ofNat (show (v / 6277101735386680763835789423207666416102355444464034512896) / 65536 % 256 = v / 411376139330301510538742295639337626245683966408394965837152256 % 256 by omega)),
    show IntKind.u8.wrap (shrI .u64 ((v / 6277101735386680763835789423207666416102355444464034512896 : Nat) : Int) 24) = ((v / 105312291668557186697918027683670432318895095400549111254310977536 % 256 : Nat) : Int) from (byteW _ 24 (by decide)).trans (congrArg Int.ofNat (show (v / 6277101735386680763835789423207666416102355444464034512896) / 16777216 % 256 = v / 105312291668557186697918027683670432318895095400549111254310977536 % 256 by omega)),
    show IntKind.u8.wrap (shrI .u64 ((v / 6277101735386680763835789423207666416102355444464034512896 : Nat) : Int) 32) = ((v / 26959946667150639794667015087019630673637144422540572481103610249216 % 256 : Nat) : Int) from (byteW _ 32 (by decide)).trans (congrArg Int.ofNat (show (v / 6277101735386680763835789423207666416102355444464034512896) / 4294967296 % 256 = v / 26959946667150639794667015087019630673637144422540572481103610249216 % 256 by omega)),
    show IntKind.u8.wrap (shrI .u64 ((v / 6277101735386680763835789423207666416102355444464034512896 : Nat) : Int) 40) = ((v / 6901746346790563787434755862277025452451108972170386555162524223799296 % 256 : Nat) : Int) from (byteW _ 40 (by decide)).trans (congrArg Int.ofNat (show (v / 6277101735386680763835789423207666416102355444464034512896) / 1099511627776 % 256 = v / 6901746346790563787434755862277025452451108972170386555162524223799296 % 256 by omega)),
    show IntKind.u8.wrap (shrI .u64 ((v / 6277101735386680763835789423207666416102355444464034512896 : Nat) : Int) 48) = ((v / 1766847064778384329583297500742918515827483896875618958121606201292619776 % 256 : Nat) : Int) from (byteW _ 48 (by decide)).trans (congrArg Int.ofNat (show (v / 6277101735386680763835789423207666416102355444464034512896) / 281474976710656 % 256 = v / 1766847064778384329583297500742918515827483896875618958121606201292619776 % 256 by omega)),
    show IntKind.u8.wrap (shrI .u64 ((v / 6277101735386680763835789423207666416102355444464034512896 : Nat) : Int) 56) = ((v / 452312848583266388373324160190187140051835877600158453279131187530910662656 % 256 : Nat) : Int) from (byteW _ 56 (by decide)).trans (congrArg Int.ofNat (show (v / 6277101735386680763835789423207666416102355444464034512896) / 72057594037927936 % 256 = v / 452312848583266388373324160190187140051835877600158453279131187530910662656 % 256 by omega))]
  rfl

/-! ### from bytes -/
def loadW (w0 w1 w2 w3 : Int) : List Int :=
  [IntKind.u64.wrap (andI .u64 w0 2251799813685247 + IntKind.u64.wrap (19 * shrI .u64 w3 63)), andI .u64 (orI .u64 (shrI .u64 w0 51) (shlI .u64 w1 13)) 2251799813685247, andI .u64 (orI .u64 (shrI .u64 w1 38) (shlI .u64 w2 26)) 2251799813685247, andI .u64 (orI .u64 (shrI .u64 w2 25) (shlI .u64 w3 39)) 2251799813685247, andI .u64 (shrI .u64 w3 12) 2251799813685247]
def word8 (x0 x1 x2 x3 x4 x5 x6 x7 : Int) : Int := (orI .u64 (orI .u64 (orI .u64 (orI .u64 (orI .u64 (orI .u64 (orI .u64 (orI .u64 0 (shlI .u64 (IntKind.u64.wrap x0) 0)) (shlI .u64 (IntKind.u64.wrap x1) 8)) (shlI .u64 (IntKind.u64.wrap x2) 16)) (shlI .u64 (IntKind.u64.wrap x3) 24)) (shlI .u64 (IntKind.u64.wrap x4) 32)) (shlI .u64 (IntKind.u64.wrap x5) 40)) (shlI .u64 (IntKind.u64.wrap x6) 48)) (shlI .u64 (IntKind.u64.wrap x7) 56))
theorem load_eq (x0 x1 x2 x3 x4 x5 x6 x7 x8 x9 x10 x11 x12 x13 x14 x15 x16 x17 x18 x19 x20 x21 x22 x23 x24 x25 x26 x27 x28 x29 x30 x31 : Int) : loadL [x0, x1, x2, x3, x4, x5, x6, x7, x8, x9, x10, x11, x12, x13, x14, x15, x16, x17, x18, x19, x20, x21, x22, x23, x24, x25, x26, x27, x28, x29, x30, x31] = loadW (word8 x0 x1 x2 x3 x4 x5 x6 x7) (word8 x8 x9 x10 x11 x12 x13 x14 x15) (word8 x16 x17 x18 x19 x20 x21 x22 x23) (word8 x24 x25 x26 x27 x28 x29 x30 x31) := by kernel_rfl
theorem word8_nat {x0 x1 x2 x3 x4 x5 x6 x7 : Nat} (h0 : x0 < 256) (h1 : x1 < 256) (h2 : x2 < 256) (h3 : x3 < 256) (h4 : x4 < 256) (h5 : x5 < 256) (h6 : x6 < 256) (h7 : x7 < 256) :
    word8 (x0 : Int) (x1 : Int) (x2 : Int) (x3 : Int) (x4 : Int) (x5 : Int) (x6 : Int) (x7 : Int) = ((x0 * 1 + x1 * 256 + x2 * 65536 + x3 * 16777216 + x4 * 4294967296 + x5 * 1099511627776 + x6 * 281474976710656 + x7 * 72057594037927936 : Nat) : Int) := by
  unfold word8
  rw [w64 (n := x0) (by omega), w64 (n := x1) (by omega), w64 (n := x2) (by omega), w64 (n := x3) (by omega), w64 (n := x4) (by omega), w64 (n := x5) (by omega), w64 (n := x6) (by omega), w64 (n := x7) (by omega)]
  rw [show (0 : Int) = ((0 : Nat) : Int) from rfl]
  rw [show orI .u64 ((0 : Nat) : Int) (shlI .u64 (x0 : Int) ((0 : Nat) : Int)) = ((0 + x0 * 1 : Nat) : Int) from (orW 0 (by decide) (by omega)).trans (congrArg Int.ofNat (show 0 + x0 % 18446744073709551616 * 1 = 0 + x0 * 1 by omega))]
  rw [show orI .u64 ((0 + x0 * 1 : Nat) : Int) (shlI .u64 (x1 : Int) 8) = ((0 + x0 * 1 + x1 * 256 : Nat) : Int) from (orW 8 (by decide) (by omega)).trans (congrArg Int.ofNat (show 0 + x0 * 1 + x1 % 72057594037927936 * 256 = 0 + x0 * 1 + x1 * 256 by omega))]
  rw [show orI .u64 ((0 + x0 * 1 + x1 * 256 : Nat) : Int) (shlI .u64 (x2 : Int) 16) = ((0 + x0 * 1 + x1 * 256 + x2 * 65536 : Nat) : Int) from (orW 16 (by decide) (by omega)).trans (congrArg Int.ofNat (show 0 + x0 * 1 + x1 * 256 + x2 % 281474976710656 * 65536 = 0 + x0 * 1 + x1 * 256 + x2 * 65536 by omega))]
  rw [show orI .u64 ((0 + x0 * 1 + x1 * 256 + x2 * 65536 : Nat) : Int) (shlI .u64 (x3 : Int) 24) = ((0 + x0 * 1 + x1 * 256 + x2 * 65536 + x3 * 16777216 : Nat) : Int) from (orW 24 (by decide) (by omega)).trans (congrArg Int.ofNat (show 0 + x0 * 1 + x1 * 256 + x2 * 65536 + x3 % 1099511627776 * 16777216 = 0 + x0 * 1 + x1 * 256 + x2 * 65536 + x3 * 16777216 by omega))]
  rw [show orI .u64 ((0 + x0 * 1 + x1 * 256 + x2 * 65536 + x3 * 16777216 : Nat) : Int) (shlI .u64 (x4 : Int) 32) = ((0 + x0 * 1 + x1 * 256 + x2 * 65536 + x3 * 16777216 + x4 * 4294967296 : Nat) : Int) from (orW 32 (by decide) (by omega)).trans (congrArg Int.ofNat (show 0 + x0 * 1 + x1 * 256 + x2 * 65536 + x3 * 16777216 + x4 % 4294967296 * 4294967296 = 0 + x0 * 1 + x1 * 256 + x2 * 65536 + x3 * 16777216 + x4 * 4294967296 by omega))]
  rw [show orI .u64 ((0 + x0 * 1 + x1 * 256 + x2 * 65536 + x3 * 16777216 + x4 * 4294967296 : Nat) : Int) (shlI .u64 (x5 : Int) 40) = ((0 + x0 * 1 + x1 * 256 + x2 * 65536 + x3 * 16777216 + x4 * 4294967296 + x5 * 1099511627776 : Nat) : Int) from (orW 40 (by decide) (by omega)).trans (congrArg Int.ofNat (show 0 + x0 * 1 + x1 * 256 + x2 * 65536 + x3 * 16777216 + x4 * 4294967296 + x5 % 16777216 * 1099511627776 = 0 + x0 * 1 + x1 * 256 + x2 * 65536 + x3 * 16777216 + x4 * 4294967296 + x5 * 1099511627776 by omega))]
  rw [show orI .u64 ((0 + x0 * 1 + x1 * 256 + x2 * 65536 + x3 * 16777216 + x4 * 4294967296 + x5 * 1099511627776 : Nat) : Int) (shlI .u64 (x6 : Int) 48) = ((0 + x0 * 1 + x1 * 256 + x2 * 65536 + x3 * 16777216 + x4 * 4294967296 + x5 * 1099511627776 + x6 * 281474976710656 : Nat) : Int) from (orW 48 (by decide) (by omega)).trans (congrArg Int.ofNat (show 0 + x0 * 1 + x1 * 256 + x2 * 65536 + x3 * 16777216 + x4 * 4294967296 + x5 * 1099511627776 + x6 % 65536 * 281474976710656 = 0 + x0 * 1 + x1 * 256 + x2 * 65536 + x3 * 16777216 + x4 * 4294967296 + x5 * 1099511627776 + x6 * 281474976710656 by omega))]
  rw [show orI .u64 ((0 + x0 * 1 + x1 * 256 + x2 * 65536 + x3 * 16777216 + x4 * 4294967296 + x5 * 1099511627776 + x6 * 281474976710656 : Nat) : Int) (shlI .u64 (x7 : Int) 56) = ((0 + x0 * 1 + x1 * 256 + x2 * 65536 + x3 * 16777216 + x4 * 4294967296 + x5 * 1099511627776 + x6 * 281474976710656 + x7 * 72057594037927936 : Nat) : Int) from (orW 56 (by decide) (by omega)).trans (congrArg Int.ofNat (show 0 + x0 * 1 + x1 * 256 + x2 * 65536 + x3 * 16777216 + x4 * 4294967296 + x5 * 1099511627776 + x6 * 281474976710656 + x7 % 256 * 72057594037927936 = 0 + x0 * 1 + x1 * 256 + x2 * 65536 + x3 * 16777216 + x4 * 4294967296 + x5 * 1099511627776 + x6 * 281474976710656 + x7 * 72057594037927936 by omega))]
  congr 1; omega

theorem loadW_el {w0 w1 w2 w3 : Nat} (h0 : w0 < 18446744073709551616) (h1 : w1 < 18446744073709551616) (h2 : w2 < 18446744073709551616) (h3 : w3 < 18446744073709551616) : El (loadW (w0 : Int) (w1 : Int) (w2 : Int) (w3 : Int)) ((w0 + 18446744073709551616 * w1 + 340282366920938463463374607431768211456 * w2 + 6277101735386680763835789423207666416102355444464034512896 * w3) % p25519) := by
  unfold loadW
  rw [and51 h0, shr51]
  rw [show shrI .u64 (w3 : Int) 63 = ((w3 / 9223372036854775808 : Nat) : Int) from shrN (k := .u64) (m := 63) (by decide) w3]
  rw [show shrI .u64 (w3 : Int) 12 = ((w3 / 4096 : Nat) : Int) from shrN (k := .u64) (m := 12) (by decide) w3]
  rw [show shrI .u64 (w1 : Int) 38 = ((w1 / 274877906944 : Nat) : Int) from shrN (k := .u64) (m := 38) (by decide) w1]
  rw [show shrI .u64 (w2 : Int) 25 = ((w2 / 33554432 : Nat) : Int) from shrN (k := .u64) (m := 25) (by decide) w2]
  rw [show orI .u64 ((w0 / 2251799813685248 : Nat) : Int) (shlI .u64 (w1 : Int) 13) = ((w0 / 2251799813685248 + w1 % 2251799813685248 * 8192 : Nat) : Int) from orW 13 (by decide) (by omega)]
  rw [show orI .u64 ((w1 / 274877906944 : Nat) : Int) (shlI .u64 (w2 : Int) 26) = ((w1 / 274877906944 + w2 % 274877906944 * 67108864 : Nat) : Int) from orW 26 (by decide) (by omega)]
  rw [show orI .u64 ((w2 / 33554432 : Nat) : Int) (shlI .u64 (w3 : Int) 39) = ((w2 / 33554432 + w3 % 33554432 * 549755813888 : Nat) : Int) from orW 39 (by decide) (by omega)]
  rw [and51 (by omega), and51 (by omega), and51 (by omega), and51 (by omega)]
  rw [show IntKind.u64.wrap (19 * ((w3 / 9223372036854775808 : Nat) : Int)) = ((19 * (w3 / 9223372036854775808) : Nat) : Int) from w64 (n := 19 * (w3 / 9223372036854775808)) (by omega)]
  rw [show IntKind.u64.wrap (((w0 % 2251799813685248 : Nat) : Int) + ((19 * (w3 / 9223372036854775808) : Nat) : Int)) = ((w0 % 2251799813685248 + 19 * (w3 / 9223372036854775808) : Nat) : Int) from w64 (n := w0 % 2251799813685248 + 19 * (w3 / 9223372036854775808)) (by omega)]
  refine ⟨_, _, _, _, _, rfl, ⟨by omega, by omega, by omega, by omega, by omega⟩, mod_of (q := w3 / 9223372036854775808) ?_⟩
  unfold val5 p25519
  omega
theorem load32 {x0 x1 x2 x3 x4 x5 x6 x7 x8 x9 x10 x11 x12 x13 x14 x15 x16 x17 x18 x19 x20 x21 x22 x23 x24 x25 x26 x27 x28 x29 x30 x31 : Nat} (h0 : x0 < 256) (h1 : x1 < 256) (h2 : x2 < 256) (h3 : x3 < 256) (h4 : x4 < 256) (h5 : x5 < 256) (h6 : x6 < 256) (h7 : x7 < 256) (h8 : x8 < 256) (h9 : x9 < 256) (h10 : x10 < 256) (h11 : x11 < 256) (h12 : x12 < 256) (h13 : x13 < 256) (h14 : x14 < 256) (h15 : x15 < 256) (h16 : x16 < 256) (h17 : x17 < 256) (h18 : x18 < 256) (h19 : x19 < 256) (h20 : x20 < 256) (h21 : x21 < 256) (h22 : x22 < 256) (h23 : x23 < 256) (h24 : x24 < 256) (h25 : x25 < 256) (h26 : x26 < 256) (h27 : x27 < 256) (h28 : x28 < 256) (h29 : x29 < 256) (h30 : x30 < 256) (h31 : x31 < 256) : El (loadL (nats [x0, x1, x2, x3, x4, x5, x6, x7, x8, x9, x10, x11, x12, x13, x14, x15, x16, x17, x18, x19, x20, x21, x22, x23, x24, x25, x26, x27, x28, x29, x30, x31])) (valB 256 [x0, x1, x2, x3, x4, x5, x6, x7, x8, x9, x10, x11, x12, x13, x14, x15, x16, x17, x18, x19, x20, x21, x22, x23, x24, x25, x26, x27, x28, x29, x30, x31] % p25519) := by
  rw [show loadL (nats [x0, x1, x2, x3, x4, x5, x6, x7, x8, x9, x10, x11, x12, x13, x14, x15, x16, x17, x18, x19, x20, x21, x22, x23, x24, x25, x26, x27, x28, x29, x30, x31]) = _ from load_eq (x0 : Int) (x1 : Int) (x2 : Int) (x3 : Int) (x4 : Int) (x5 : Int) (x6 : Int) (x7 : Int) (x8 : Int) (x9 : Int) (x10 : Int) (x11 : Int) (x12 : Int) (x13 : Int) (x14 : Int) (x15 : Int) (x16 : Int) (x17 : Int) (x18 : Int) (x19 : Int) (x20 : Int) (x21 : Int) (x22 : Int) (x23 : Int) (x24 : Int) (x25 : Int) (x26 : Int) (x27 : Int) (x28 : Int) (x29 : Int) (x30 : Int) (x31 : Int)]
  rw [word8_nat h0 h1 h2 h3 h4 h5 h6 h7, word8_nat h8 h9 h10 h11 h12 h13 h14 h15, word8_nat h16 h17 h18 h19 h20 h21 h22 h23, word8_nat h24 h25 h26 h27 h28 h29 h30 h31]
  have h := loadW_el (w0 := x0 * 1 + x1 * 256 + x2 * 65536 + x3 * 16777216 + x4 * 4294967296 + x5 * 1099511627776 + x6 * 281474976710656 + x7 * 72057594037927936) (w1 := x8 * 1 + x9 * 256 + x10 * 65536 + x11 * 16777216 + x12 * 4294967296 + x13 * 1099511627776 + x14 * 281474976710656 + x15 * 72057594037927936) (w2 := x16 * 1 + x17 * 256 + x18 * 65536 + x19 * 16777216 + x20 * 4294967296 + x21 * 1099511627776 + x22 * 281474976710656 + x23 * 72057594037927936) (w3 := x24 * 1 + x25 * 256 + x26 * 65536 + x27 * 16777216 + x28 * 4294967296 + x29 * 1099511627776 + x30 * 281474976710656 + x31 * 72057594037927936) (by omega) (by omega) (by omega) (by omega)
  refine Eq.mp (congrArg (fun n => El _ (n % p25519)) ?_) h
  simp only [valB]
  omega

theorem len32 {l : List Nat} (h : l.length = 32) : ∃ x0 x1 x2 x3 x4 x5 x6 x7 x8 x9 x10 x11 x12 x13 x14 x15 x16 x17 x18 x19 x20 x21 x22 x23 x24 x25 x26 x27 x28 x29 x30 x31, l = [x0, x1, x2, x3, x4, x5, x6, x7, x8, x9, x10, x11, x12, x13, x14, x15, x16, x17, x18, x19, x20, x21, x22, x23, x24, x25, x26, x27, x28, x29, x30, x31] := by
  match l, h with
  | [x0, x1, x2, x3, x4, x5, x6, x7, x8, x9, x10, x11, x12, x13, x14, x15, x16, x17, x18, x19, x20, x21, x22, x23, x24, x25, x26, x27, x28, x29, x30, x31], _ => exact ⟨x0, x1, x2, x3, x4, x5, x6, x7, x8, x9, x10, x11, x12, x13, x14, x15, x16, x17, x18, x19, x20, x21, x22, x23, x24, x25, x26, x27, x28, x29, x30, x31, rfl⟩

theorem load_el {l : List Nat} (hl : l.length = 32) (hb : ∀ x ∈ l, x < 256) : El (loadL (nats l)) (valB 256 l % p25519) := by
  obtain ⟨x0, x1, x2, x3, x4, x5, x6, x7, x8, x9, x10, x11, x12, x13, x14, x15, x16, x17, x18, x19, x20, x21, x22, x23, x24, x25, x26, x27, x28, x29, x30, x31, rfl⟩ := len32 hl
  simp only [List.mem_cons, List.not_mem_nil, or_false, forall_eq_or_imp, forall_eq] at hb
  obtain ⟨h0, h1, h2, h3, h4, h5, h6, h7, h8, h9, h10, h11, h12, h13, h14, h15, h16, h17, h18, h19, h20, h21, h22, h23, h24, h25, h26, h27, h28, h29, h30, h31⟩ := hb
  exact load32 h0 h1 h2 h3 h4 h5 h6 h7 h8 h9 h10 h11 h12 h13 h14 h15 h16 h17 h18 h19 h20 h21 h22 h23 h24 h25 h26 h27 h28 h29 h30 h31
end Go.Proofs.Ytcgolglcjfknpaa

/- Powers: what el.power comes to. -/
namespace Go.Proofs.Ytcgolglcjfknpaa
open Go Go.Eng
set_option maxRecDepth 100000

def powBits (x : List Int) (b : Int) : Nat → List Int → List Int
  | 0, r => r
  | j + 1, r => powBits x b j (bif andI .u8 (shrI .u8 b (j : Int)) 1 == 1 then timesL (timesL r r) x else timesL r r)
def powGo (x e : List Int) : Nat → List Int → List Int
  | 0, r => r
  | i + 1, r => powGo x e i (powBits x (e.getD i 0) 8 r)
def powL (x e : List Int) : List Int := powGo x e e.length [1, 0, 0, 0, 0]

theorem wrapI {a : Int} (h1 : -9223372036854775808 ≤ a) (h2 : a < 9223372036854775808) : IntKind.i64.wrap a = a := by
  simp [IntKind.wrap, IntKind.bits, IntKind.signed]; omega

theorem f72_in {R : Type} (N : Nat) (k1 : Bool → Int → Int → List Int → List Int → List Int → List Int → Option R) (e x z : List Int) (i : Nat) (hi : i < e.length) :
    ∀ j : Nat, j ≤ 8 → ∀ fuel, j < fuel → ∀ r, f72_2_lp N k1 fuel (i : Int) ((j : Int) - 1) e x z r = k1 false (i : Int) (-1) e x z (powBits x (e.getD i 0) j r) := by
  intro j
  induction j with
  | zero =>
    intro _ fuel hf r
    obtain ⟨f, rfl⟩ : ∃ f, fuel = f + 1 := ⟨fuel - 1, by omega⟩
    rfl
  | succ j ih =>
    intro hj fuel hf r
    obtain ⟨f, rfl⟩ : ∃ f, fuel = f + 1 := ⟨fuel - 1, by omega⟩
    rw [show ((j + 1 : Nat) : Int) - 1 = (j : Int) by omega]
    show f72_2_st N (f72_2_lp N k1 f) k1 _ _ _ _ _ _ = _
    unfold f72_2_st
    rw [show decide ((j : Int) ≥ 0) = true from decide_eq_true (by omega), show decide (0 ≤ (i : Int)) = true from decide_eq_true (by omega), show decide ((i : Int) < nI (rowLen 1 e)) = true from decide_eq_true (Int.ofNat_lt.mpr hi)]
    rw [cond_true, show (true && true) = true from rfl, cond_true, cond_true]
    dsimp only
    rw [wrapI (a := (j : Int) - 1) (by omega) (by omega), show e.getD (mulE (Int.toNat (i : Int)) 1) 0 = e.getD i 0 from rfl]
    unfold powBits
    cases (andI .u8 (shrI .u8 (e.getD i 0) (j : Int)) 1 == 1)
    · rw [cond_false, cond_false]; exact ih (by omega) f (by omega) _
    · rw [cond_true, cond_true]; exact ih (by omega) f (by omega) _

theorem f72_out {R : Type} (N : Nat) (hN : 8 < N) (k1 : Bool → Int → List Int → List Int → List Int → List Int → Option R) (e x z : List Int) (he : e.length < 9223372036854775808) :
    ∀ m : Nat, m ≤ e.length → ∀ fuel, m < fuel → ∀ r, f72_0_lp N k1 fuel ((m : Int) - 1) e x z r = k1 false (-1) e x z (powGo x e m r) := by
  intro m
  induction m with
  | zero =>
    intro _ fuel hf r
    obtain ⟨f, rfl⟩ : ∃ f, fuel = f + 1 := ⟨fuel - 1, by omega⟩
    rfl
  | succ m ih =>
    intro hm fuel hf r
    obtain ⟨f, rfl⟩ : ∃ f, fuel = f + 1 := ⟨fuel - 1, by omega⟩
    rw [show ((m + 1 : Nat) : Int) - 1 = (m : Int) by omega]
    show f72_0_st N (f72_0_lp N k1 f) k1 _ _ _ _ _ = _
    unfold f72_0_st
    rw [show decide ((m : Int) ≥ 0) = true from decide_eq_true (by omega), cond_true]
    rw [show (7 : Int) = ((8 : Nat) : Int) - 1 from rfl, f72_in N _ e x z m (by omega) 8 (by decide) N hN]
    dsimp only
    rw [wrapI (a := (m : Int) - 1) (by omega) (by omega)]
    exact ih (by omega) f (by omega) _

theorem f72_spec {R : Type} (N : Nat) (x e : List Int) (hN : e.length + 8 < N) (he : e.length < 9223372036854775808) (k : List DV → Option R) : f72_raw N x e k = k [.v (.one (.ints .u64 5 (powL x e)))] := by
  unfold f72_raw
  dsimp only
  rw [show nI (rowLen 1 e) = (e.length : Int) from rfl, wrapI (a := (e.length : Int) - 1) (by omega) (by omega)]
  rw [f72_out N (by omega) _ e x _ he e.length (Nat.le_refl _) N (by omega)]
  rfl

def I72 : (R : Type) → List DV → (List DV → Option R) → Option R := fun _ ds k => match ds with
  | [.v (.one (.ints .u64 5 x)), .lst .u8 1 e] => bif decide (e.length < 9223372036854775808) then k [.v (.one (.ints .u64 5 (powL x e)))] else none
  | _ => none
theorem c72 : Contract Try.prog 72 { sig := S72, impl := I72 } := by
  refine Contract.refine fun R ds k r h => ?_
  unfold I72 at h
  split at h
  · rename_i x e
    rcases hc : decide (e.length < 9223372036854775808) with _ | _
    · rw [hc] at h; cases h
    · rw [hc, cond_true] at h
      refine ⟨_, f72_contract (e.length + 9) GA_ok, ?_⟩
      rw [f72_raw_eq, f72_spec _ x e (by omega) (of_decide_eq_true hc)]
      exact h
  · cases h

/-! ### as numbers -/

theorem one_el : El [1, 0, 0, 0, 0] 1 := ⟨1, 0, 0, 0, 0, rfl, ⟨by decide, by decide, by decide, by decide, by decide⟩, by decide⟩

theorem bit8 {b : Nat} (hb : b < 256) (j : Nat) (hj : j ≤ 8) : andI .u8 (shrI .u8 (b : Int) (j : Int)) 1 = ((b / 2 ^ j % 2 : Nat) : Int) := by
  rw [shrN (k := .u8) hj]
  exact maskN (k := .u8) (j := 1) rfl (Nat.lt_of_le_of_lt (Nat.div_le_self _ _) hb) (by decide)

theorem powBits_el {x : List Int} {v : Nat} (hx : El x v) {b : Nat} (hb : b < 256) : ∀ (j : Nat), j ≤ 8 → ∀ {r : List Int} {w c : Nat}, El r (v ^ c % p25519) → w = c * 2 ^ j + b % 2 ^ j → El (powBits x (b : Int) j r) (v ^ w % p25519) := by
  intro j
  induction j with
  | zero => intro _ r w c hr hw; rw [Nat.pow_zero, Nat.mod_one] at hw; unfold powBits; rw [hw]; simpa using hr
  | succ j ih =>
    intro hj r w c hr hw
    unfold powBits
    rw [bit8 hb j (by omega)]
    have h2 := times_el hr hr
    rw [← Nat.mul_mod, ← Nat.pow_add] at h2
    have hb2 : b % 2 ^ (j + 1) = b / 2 ^ j % 2 * 2 ^ j + b % 2 ^ j := by
      rw [Nat.pow_succ, Nat.mod_mul, Nat.mul_comm, Nat.add_comm, Nat.mul_comm]
    rcases hc : (((b / 2 ^ j % 2 : Nat) : Int) == 1) with _ | _
    · rw [cond_false]
      refine ih (by omega) h2 ?_
      have h0 : b / 2 ^ j % 2 = 0 := by
        have : ¬ b / 2 ^ j % 2 = 1 := fun h => by rw [h] at hc; exact absurd hc (by decide)
        omega
      rw [hw, hb2, h0, Nat.pow_succ, Nat.mul_comm (2 ^ j) 2, ← Nat.mul_assoc, Nat.zero_mul, Nat.zero_add, Nat.mul_two]
    · rw [cond_true]
      have h1 : b / 2 ^ j % 2 = 1 := by rw [beq_iff_eq] at hc; omega
      have h3 := times_el h2 hx
      rw [Nat.mod_mul_mod, ← Nat.pow_succ] at h3
      refine ih (by omega) h3 ?_
      rw [hw, hb2, h1, Nat.pow_succ, Nat.mul_comm (2 ^ j) 2, ← Nat.mul_assoc, Nat.mul_two, Nat.one_mul, Nat.succ_mul]
      omega

theorem powGo_el {x : List Int} {v : Nat} (hx : El x v) {l : List Nat} (hl : ∀ b ∈ l, b < 256) : ∀ (m : Nat), m ≤ l.length → ∀ {r : List Int} {w c : Nat}, El r (v ^ c % p25519) → w = c * 256 ^ m + valB 256 (l.take m) → El (powGo x (nats l) m r) (v ^ w % p25519) := by
  intro m
  induction m with
  | zero => intro _ r w c hr hw; unfold powGo; rw [hw]; simpa [valB] using hr
  | succ m ih =>
    intro hm r w c hr hw
    unfold powGo
    rw [nats_getD]
    have hb : l.getD m 0 < 256 := by
      rw [List.getD_eq_getElem?_getD, List.getElem?_eq_getElem hm]; exact hl _ (List.getElem_mem hm)
    have h1 := powBits_el hx hb 8 (by decide) hr (w := c * 256 + l.getD m 0) (by rw [show (2 : Nat) ^ 8 = 256 from rfl, Nat.mod_eq_of_lt hb])
    refine ih (by omega) h1 ?_
    rw [hw, List.take_add_one, List.getElem?_eq_getElem hm, Option.toList_some, valB_append, List.length_take, Nat.min_eq_left (by omega)]
    rw [List.getD_eq_getElem?_getD, List.getElem?_eq_getElem hm, Option.getD_some]
    simp only [valB, Nat.mul_zero, Nat.add_zero, Nat.pow_succ, Nat.add_mul]
    rw [Nat.mul_comm (256 ^ m) 256, ← Nat.mul_assoc, Nat.mul_comm (256 ^ m)]
    omega

theorem pow_el {x : List Int} {v : Nat} (hx : El x v) {l : List Nat} (hl : ∀ b ∈ l, b < 256) : El (powL x (nats l)) (v ^ valB 256 l % p25519) := by
  unfold powL
  rw [nats_length]
  refine powGo_el hx hl l.length (Nat.le_refl _) (c := 0) (by rw [Nat.pow_zero]; exact one_el) ?_
  rw [Nat.zero_mul, Nat.zero_add, List.take_length]
end Go.Proofs.Ytcgolglcjfknpaa

/- The contexts for field's exported functions; elements as numbers. -/
namespace Go.Proofs.Ytcgolglcjfknpaa
open Go Go.Eng
set_option maxRecDepth 100000

noncomputable def GC : Ctx := [(67, { sig := S67, impl := I67 }), (73, { sig := S73, impl := I73 }), (74, { sig := S74, impl := I74 }), (94, { sig := S94, impl := I94 }), (97, { sig := S97, impl := I97 }), (66, { sig := S66, impl := I66 }), (70, { sig := S70, impl := I70 }), (72, { sig := S72, impl := I72 })]
theorem GC_ok : CtxOk Try.prog GC := ctxOk_cons ok67 rfl c67 (ctxOk_cons ok73 rfl c73 (ctxOk_cons ok74 rfl c74 (ctxOk_cons ok94 rfl c94 (ctxOk_cons ok97 rfl c97 (ctxOk_cons ok66 rfl c66 (ctxOk_cons ok70 rfl c70 (ctxOk_cons ok72 rfl c72 ctxOk_nil)))))))

/-- a thing that no reckoning looks into -/
noncomputable def stk {α : Type} (a : α) : { b : α // b = a } := Classical.choice ⟨⟨a, rfl⟩⟩
/-- a list that is an element's bytes -/
def okB (x : List Int) : Bool := decide (x.length = 32) && x.all (fun b => decide (0 ≤ b) && decide (b < 256))
/-- the number of some bytes -/
def numB (x : List Int) : Nat := valB 256 (x.map Int.toNat)
/-- the bytes of a number -/
noncomputable def feN : Nat → List Int := (stk fun v => nats (digs 256 32 v)).1
theorem feN_def (v : Nat) : feN v = nats (digs 256 32 v) := congrFun (stk fun v => nats (digs 256 32 v)).2 v

theorem nats_toNat (l : List Nat) : (nats l).map Int.toNat = l := by
  unfold nats; rw [List.map_map]; conv => rhs; rw [← List.map_id l]
  rfl
theorem okB_nats {l : List Nat} (hl : l.length = 32) (h : ∀ b ∈ l, b < 256) : okB (nats l) = true := by
  unfold okB
  rw [nats_length, decide_eq_true hl, Bool.true_and, List.all_eq_true]
  intro b hb
  unfold nats at hb
  obtain ⟨n, hn, rfl⟩ := List.mem_map.mp hb
  have := h n hn
  rw [Bool.and_eq_true]
  exact ⟨decide_eq_true (Int.natCast_nonneg n), decide_eq_true (Int.ofNat_lt.mpr this)⟩
theorem okB_feN (v : Nat) : okB (feN v) = true := by
  rw [feN_def]; exact okB_nats (digs_length _ _ _) (digs_lt (by decide))
theorem numB_nats (l : List Nat) : numB (nats l) = valB 256 l := by unfold numB; rw [nats_toNat]
theorem numB_feN (v : Nat) : numB (feN v) = v % 2 ^ 256 := by
  rw [feN_def, numB_nats, digs_val]
theorem numB_lt {v : Nat} (h : v < 2 ^ 256) : numB (feN v) = v := by rw [numB_feN, Nat.mod_eq_of_lt h]
theorem numB_mod (n : Nat) : numB (feN (n % p25519)) = n % p25519 :=
  numB_lt (Nat.lt_of_lt_of_le (Nat.mod_lt _ (by decide)) (by decide))
/-- what okB says -/
theorem okB_of {x : List Int} (h : okB x = true) : ∃ l : List Nat, x = nats l ∧ l.length = 32 ∧ ∀ b ∈ l, b < 256 := by
  unfold okB at h
  rw [Bool.and_eq_true, List.all_eq_true] at h
  obtain ⟨h1, h2⟩ := h
  have h3 : ∀ b ∈ x, 0 ≤ b ∧ b < 256 := fun b hb => by
    have := h2 b hb
    rw [Bool.and_eq_true] at this
    exact ⟨of_decide_eq_true this.1, of_decide_eq_true this.2⟩
  obtain ⟨l, rfl⟩ := nats_of (xs := x) fun b hb => (h3 b hb).1
  refine ⟨l, rfl, by rw [← nats_length]; exact of_decide_eq_true h1, fun b hb => ?_⟩
  exact Int.ofNat_lt.mp (h3 b (List.mem_map.mpr ⟨b, hb, rfl⟩)).2
theorem load_num {x : List Int} (h : okB x = true) : El (loadL x) (numB x % p25519) := by
  obtain ⟨l, rfl, h1, h2⟩ := okB_of h
  rw [numB_nats]; exact load_el h1 h2
theorem fe_num {x : List Int} {v : Nat} (h : El x v) : feL x = feN v := (fe_el h).trans (feN_def v).symm
theorem numB_bound {x : List Int} (h : okB x = true) : numB x < 2 ^ 256 := by
  obtain ⟨l, rfl, h1, h2⟩ := okB_of h
  rw [numB_nats]
  have := valB_lt (b := 256) (by decide) h2
  rw [h1] at this
  exact this
theorem feN_inj {a b : Nat} (ha : a < 2 ^ 256) (hb : b < 2 ^ 256) : feN a = feN b ↔ a = b := by
  constructor
  · intro h; rw [← numB_lt ha, ← numB_lt hb, h]
  · intro h; rw [h]
theorem feN_numB {x : List Int} (h : okB x = true) : feN (numB x) = x := by
  obtain ⟨l, rfl, h1, h2⟩ := okB_of h
  rw [numB_nats, feN_def]
  rw [← h1, digs_of (by decide) h2]
end Go.Proofs.Ytcgolglcjfknpaa

/- What (rime/field.el).inverse comes to. MADE BY PROGRAM (wip/tools/mkfn.py, EngGen.lean). -/
namespace Go.Proofs.Ytcgolglcjfknpaa
open Go Go.Eng
set_option maxRecDepth 100000
set_option linter.unusedVariables false

noncomputable def f75_raw {R : Type} (N : Nat) (x : List Int) (k : List DV → Option R) : Option R :=
 k [DV.v (SV.one (At.ints IntKind.u64 5 (powL x (nats (digs 256 32 57896044618658097711785492504343953926634992332820282019728792003956564819947)))))]


noncomputable def E75 (N : Nat) : Env := { Θ := Th, Γ := GC, K := K75, ν := N75, fuel := 60, lp := [] }


theorem f75_contract (N : Nat) (hΓ : CtxOk Try.prog GC) : Contract Try.prog 75 { sig := S75, impl := fun _ ds k => call (E75 N) S75 6 B75 R75 ds k } :=
  call_contract (E := E75 N) thOk hΓ mixed ok75.look ok75.body ok75.n ok75.rv ok75.name rfl (by decide) (loopsOk_of (l := []) (by kernel_rfl) trivial)
theorem f75_raw_eq {R : Type} (N : Nat) (x : List Int) (k : List DV → Option R) : call (E75 N) S75 6 B75 R75 [.v (.one (.ints .u64 5 x))] k = f75_raw N x k := by kernel_rfl
end Go.Proofs.Ytcgolglcjfknpaa

/- The inverse's contract; the context for the exported functions. -/
namespace Go.Proofs.Ytcgolglcjfknpaa
open Go Go.Eng
set_option maxRecDepth 100000
/-- p - 2 -/
def pm2 : Nat := 57896044618658097711785492504343953926634992332820282019728792003956564819947
def inverseL (x : List Int) : List Int := powL x (nats (digs 256 32 57896044618658097711785492504343953926634992332820282019728792003956564819947))
def I75 : (R : Type) → List DV → (List DV → Option R) → Option R := fun _ ds k => match ds with
  | [.v (.one (.ints .u64 5 x))] => k [.v (.one (.ints .u64 5 (inverseL x)))]
  | _ => none
theorem c75 : Contract Try.prog 75 { sig := S75, impl := I75 } := by
  refine Contract.refine fun R ds k r h => ⟨_, f75_contract 0 GC_ok, ?_⟩
  unfold I75 at h
  split at h
  · rw [f75_raw_eq]; exact h
  · cases h
theorem digs_lit {v : Nat} (h : v < 115792089237316195423570985008687907853269984665640564039457584007913129639936) : valB 256 (digs 256 32 v) = v := by rw [digs_val]; exact Nat.mod_eq_of_lt h
/-- the power mod p, as something that no reckoning looks into -/
noncomputable def pw : Nat → Nat → Nat := (stk fun v e => v ^ e % p25519).1
theorem pw_eq (v e : Nat) : pw v e = v ^ e % p25519 := congrFun (congrFun (stk fun v e : Nat => v ^ e % p25519).2 v) e
theorem pw_pm (v e : Nat) : pw v e = pm p25519 (e.log2 + 1) v e := (pw_eq v e).trans (pm_eq _ _ _ _ Nat.lt_log2_self).symm
theorem pw_lt (v e : Nat) : pw v e < p25519 := by rw [pw_eq]; exact Nat.mod_lt _ (by decide)
theorem pow_lit {x : List Int} {v e : Nat} (hx : El x v) (he : e < 115792089237316195423570985008687907853269984665640564039457584007913129639936) : El (powL x (nats (digs 256 32 e))) (pw v e) := by
  have := pow_el hx (l := digs 256 32 e) (digs_lt (by decide))
  rwa [digs_lit he, ← pw_eq] at this
theorem inverse_el {x : List Int} {v : Nat} (hx : El x v) : El (inverseL x) (pw v pm2) := pow_lit hx (by decide)
noncomputable def GD : Ctx := [(67, { sig := S67, impl := I67 }), (73, { sig := S73, impl := I73 }), (74, { sig := S74, impl := I74 }), (94, { sig := S94, impl := I94 }), (97, { sig := S97, impl := I97 }), (66, { sig := S66, impl := I66 }), (70, { sig := S70, impl := I70 }), (72, { sig := S72, impl := I72 }), (75, { sig := S75, impl := I75 })]
theorem GD_ok : CtxOk Try.prog GD := ctxOk_cons ok67 rfl c67 (ctxOk_cons ok73 rfl c73 (ctxOk_cons ok74 rfl c74 (ctxOk_cons ok94 rfl c94 (ctxOk_cons ok97 rfl c97 (ctxOk_cons ok66 rfl c66 (ctxOk_cons ok70 rfl c70 (ctxOk_cons ok72 rfl c72 (ctxOk_cons ok75 rfl c75 ctxOk_nil))))))))
end Go.Proofs.Ytcgolglcjfknpaa

/- What rime/field.Split comes to. MADE BY PROGRAM (wip/tools/mkfn.py, EngGen.lean). -/
namespace Go.Proofs.Ytcgolglcjfknpaa
open Go Go.Eng
set_option maxRecDepth 100000
set_option linter.unusedVariables false

noncomputable def f13_raw {R : Type} (N : Nat) (x : List Int) (k : List DV → Option R) : Option R :=
 k [DV.v (SV.one (At.ints IntKind.u64 5 (leastL (loadL x))))]


noncomputable def E13 (N : Nat) : Env := { Θ := Th, Γ := GD, K := K13, ν := N13, fuel := 60, lp := [] }


theorem f13_contract (N : Nat) (hΓ : CtxOk Try.prog GD) : Contract Try.prog 13 { sig := S13, impl := fun _ ds k => call (E13 N) S13 6 B13 R13 ds k } :=
  call_contract (E := E13 N) thOk hΓ mixed ok13.look ok13.body ok13.n ok13.rv ok13.name rfl (by decide) (loopsOk_of (l := []) (by kernel_rfl) trivial)
theorem f13_raw_eq {R : Type} (N : Nat) (x : List Int) (k : List DV → Option R) : call (E13 N) S13 6 B13 R13 [.v (.one (.ints .u8 32 x))] k = f13_raw N x k := by kernel_rfl
end Go.Proofs.Ytcgolglcjfknpaa

/- What rime/field.Join comes to. MADE BY PROGRAM (wip/tools/mkfn.py, EngGen.lean). -/
namespace Go.Proofs.Ytcgolglcjfknpaa
open Go Go.Eng
set_option maxRecDepth 100000
set_option linter.unusedVariables false

noncomputable def f15_raw {R : Type} (N : Nat) (x : List Int) (k : List DV → Option R) : Option R :=
 let v0 : Int := andI IntKind.u64 (x.getD (Int.toNat 0) 0) 2251799813685247;
let v1 : Int := IntKind.u64.wrap ((List.replicate 5 0).getD (mulE (Int.toNat 0) 1) 0 + v0);
let v2 : List Int := (List.replicate 5 0).set (mulE (Int.toNat 0) 1) v1;
let v3 : Int := IntKind.i64.wrap (0 + 1);
let v4 : Int := shrI IntKind.u64 (x.getD (Int.toNat 0) 0) 51;
let v5 : Int := IntKind.u64.wrap (v2.getD (mulE v3.toNat 1) 0 + v4);
let v6 : List Int := v2.set (mulE v3.toNat 1) v5;
let v7 : Int := andI IntKind.u64 (x.getD v3.toNat 0) 2251799813685247;
let v8 : Int := IntKind.u64.wrap (v6.getD (mulE v3.toNat 1) 0 + v7);
let v9 : List Int := v6.set (mulE v3.toNat 1) v8;
let v10 : Int := IntKind.i64.wrap (v3 + 1);
let v11 : Int := shrI IntKind.u64 (x.getD v3.toNat 0) 51;
let v12 : Int := IntKind.u64.wrap (v9.getD (mulE v10.toNat 1) 0 + v11);
let v13 : List Int := v9.set (mulE v10.toNat 1) v12;
let v14 : Int := andI IntKind.u64 (x.getD v10.toNat 0) 2251799813685247;
let v15 : Int := IntKind.u64.wrap (v13.getD (mulE v10.toNat 1) 0 + v14);
let v16 : List Int := v13.set (mulE v10.toNat 1) v15;
let v17 : Int := IntKind.i64.wrap (v10 + 1);
let v18 : Int := shrI IntKind.u64 (x.getD v10.toNat 0) 51;
let v19 : Int := IntKind.u64.wrap (v16.getD (mulE v17.toNat 1) 0 + v18);
let v20 : List Int := v16.set (mulE v17.toNat 1) v19;
let v21 : Int := andI IntKind.u64 (x.getD v17.toNat 0) 2251799813685247;
let v22 : Int := IntKind.u64.wrap (v20.getD (mulE v17.toNat 1) 0 + v21);
let v23 : List Int := v20.set (mulE v17.toNat 1) v22;
let v24 : Int := IntKind.i64.wrap (v17 + 1);
let v25 : Int := shrI IntKind.u64 (x.getD v17.toNat 0) 51;
let v26 : Int := IntKind.u64.wrap (v23.getD (mulE v24.toNat 1) 0 + v25);
let v27 : List Int := v23.set (mulE v24.toNat 1) v26;
let v28 : Int := andI IntKind.u64 (x.getD v24.toNat 0) 2251799813685247;
let v29 : Int := IntKind.u64.wrap (v27.getD (mulE v24.toNat 1) 0 + v28);
let v30 : List Int := v27.set (mulE v24.toNat 1) v29;
let v31 : Int := shrI IntKind.u64 (x.getD v24.toNat 0) 51;
let v32 : Int := IntKind.u64.wrap (19 * v31);
let v33 : Int := IntKind.u64.wrap (v30.getD (mulE (Int.toNat 0) 1) 0 + v32);
let v34 : List Int := v30.set (mulE (Int.toNat 0) 1) v33;
k [DV.v (SV.one (At.ints IntKind.u8 32 (feL v34)))]


noncomputable def E15 (N : Nat) : Env := { Θ := Th, Γ := GD, K := K15, ν := N15, fuel := 60, lp := [] }


theorem f15_contract (N : Nat) (hΓ : CtxOk Try.prog GD) : Contract Try.prog 15 { sig := S15, impl := fun _ ds k => call (E15 N) S15 40 B15 R15 ds k } :=
  call_contract (E := E15 N) thOk hΓ mixed ok15.look ok15.body ok15.n ok15.rv ok15.name rfl (by decide) (loopsOk_of (l := [(0, B15_0)]) (by kernel_rfl) (allOk_skip rfl trivial))
theorem f15_raw_eq {R : Type} (N : Nat) (x : List Int) (k : List DV → Option R) : call (E15 N) S15 40 B15 R15 [.v (.one (.ints .u64 5 x))] k = f15_raw N x k := by kernel_rfl
end Go.Proofs.Ytcgolglcjfknpaa

/- What rime/field.Power comes to. MADE BY PROGRAM (wip/tools/mkfn.py, EngGen.lean). -/
namespace Go.Proofs.Ytcgolglcjfknpaa
open Go Go.Eng
set_option maxRecDepth 100000
set_option linter.unusedVariables false

noncomputable def f18_raw {R : Type} (N : Nat) (x : List Int) (e : List Int) (k : List DV → Option R) : Option R :=
 bif Decidable.decide (e.length < 9223372036854775808) then k [DV.v (SV.one (At.ints IntKind.u8 32 (feL (powL (loadL x) e))))] else Option.none


noncomputable def E18 (N : Nat) : Env := { Θ := Th, Γ := GD, K := K18, ν := N18, fuel := 60, lp := [] }


theorem f18_contract (N : Nat) (hΓ : CtxOk Try.prog GD) : Contract Try.prog 18 { sig := S18, impl := fun _ ds k => call (E18 N) S18 10 B18 R18 ds k } :=
  call_contract (E := E18 N) thOk hΓ mixed ok18.look ok18.body ok18.n ok18.rv ok18.name rfl (by decide) (loopsOk_of (l := []) (by kernel_rfl) trivial)
theorem f18_raw_eq {R : Type} (N : Nat) (x : List Int) (e : List Int) (k : List DV → Option R) : call (E18 N) S18 10 B18 R18 [.v (.one (.ints .u8 32 x)), .lst .u8 1 e] k = f18_raw N x e k := by kernel_rfl
end Go.Proofs.Ytcgolglcjfknpaa

/- What rime/field.Legendre comes to. MADE BY PROGRAM (wip/tools/mkfn.py, EngGen.lean). -/
namespace Go.Proofs.Ytcgolglcjfknpaa
open Go Go.Eng
set_option maxRecDepth 100000
set_option linter.unusedVariables false

noncomputable def f21_raw {R : Type} (N : Nat) (x : List Int) (k : List DV → Option R) : Option R :=
 bif Decidable.decide (feL (powL (loadL x) (nats (digs 256 32 28948022309329048855892746252171976963317496166410141009864396001978282409974))) = List.replicate 32 0) then k [DV.v (SV.one (At.int IntKind.i64 0))]
else
 let v0 : List Int := (List.replicate 32 0).set 0 1;
 bif Decidable.decide (feL (powL (loadL x) (nats (digs 256 32 28948022309329048855892746252171976963317496166410141009864396001978282409974))) = v0) then k [DV.v (SV.one (At.int IntKind.i64 1))] else k [DV.v (SV.one (At.int IntKind.i64 (-1)))]


noncomputable def E21 (N : Nat) : Env := { Θ := Th, Γ := GD, K := K21, ν := N21, fuel := 60, lp := [] }


theorem f21_contract (N : Nat) (hΓ : CtxOk Try.prog GD) : Contract Try.prog 21 { sig := S21, impl := fun _ ds k => call (E21 N) S21 14 B21 R21 ds k } :=
  call_contract (E := E21 N) thOk hΓ mixed ok21.look ok21.body ok21.n ok21.rv ok21.name rfl (by decide) (loopsOk_of (l := []) (by kernel_rfl) trivial)
theorem f21_raw_eq {R : Type} (N : Nat) (x : List Int) (k : List DV → Option R) : call (E21 N) S21 14 B21 R21 [.v (.one (.ints .u8 32 x))] k = f21_raw N x k := by kernel_rfl
end Go.Proofs.Ytcgolglcjfknpaa

/- What rime/field.Equal comes to. MADE BY PROGRAM (wip/tools/mkfn.py, EngGen.lean). -/
namespace Go.Proofs.Ytcgolglcjfknpaa
open Go Go.Eng
set_option maxRecDepth 100000
set_option linter.unusedVariables false

noncomputable def f23_raw {R : Type} (N : Nat) (x : List Int) (y : List Int) (k : List DV → Option R) : Option R :=
 k [DV.v (SV.one (At.bool (Decidable.decide (feL (loadL x) = feL (loadL y)))))]


noncomputable def E23 (N : Nat) : Env := { Θ := Th, Γ := GD, K := K23, ν := N23, fuel := 60, lp := [] }


theorem f23_contract (N : Nat) (hΓ : CtxOk Try.prog GD) : Contract Try.prog 23 { sig := S23, impl := fun _ ds k => call (E23 N) S23 12 B23 R23 ds k } :=
  call_contract (E := E23 N) thOk hΓ mixed ok23.look ok23.body ok23.n ok23.rv ok23.name rfl (by decide) (loopsOk_of (l := []) (by kernel_rfl) trivial)
theorem f23_raw_eq {R : Type} (N : Nat) (x : List Int) (y : List Int) (k : List DV → Option R) : call (E23 N) S23 12 B23 R23 [.v (.one (.ints .u8 32 x)), .v (.one (.ints .u8 32 y))] k = f23_raw N x y k := by kernel_rfl
end Go.Proofs.Ytcgolglcjfknpaa

/- What rime/field.Mul comes to. MADE BY PROGRAM (wip/tools/mkfn.py, EngGen.lean). -/
namespace Go.Proofs.Ytcgolglcjfknpaa
open Go Go.Eng
set_option maxRecDepth 100000
set_option linter.unusedVariables false

noncomputable def f24_raw {R : Type} (N : Nat) (x : List Int) (y : List Int) (k : List DV → Option R) : Option R :=
 k [DV.v (SV.one (At.ints IntKind.u8 32 (feL (timesL (loadL x) (loadL y)))))]


noncomputable def E24 (N : Nat) : Env := { Θ := Th, Γ := GD, K := K24, ν := N24, fuel := 60, lp := [] }


theorem f24_contract (N : Nat) (hΓ : CtxOk Try.prog GD) : Contract Try.prog 24 { sig := S24, impl := fun _ ds k => call (E24 N) S24 11 B24 R24 ds k } :=
  call_contract (E := E24 N) thOk hΓ mixed ok24.look ok24.body ok24.n ok24.rv ok24.name rfl (by decide) (loopsOk_of (l := []) (by kernel_rfl) trivial)
theorem f24_raw_eq {R : Type} (N : Nat) (x : List Int) (y : List Int) (k : List DV → Option R) : call (E24 N) S24 11 B24 R24 [.v (.one (.ints .u8 32 x)), .v (.one (.ints .u8 32 y))] k = f24_raw N x y k := by kernel_rfl
end Go.Proofs.Ytcgolglcjfknpaa

/- What rime/field.Invert comes to. MADE BY PROGRAM (wip/tools/mkfn.py, EngGen.lean). -/
namespace Go.Proofs.Ytcgolglcjfknpaa
open Go Go.Eng
set_option maxRecDepth 100000
set_option linter.unusedVariables false

noncomputable def f25_raw {R : Type} (N : Nat) (x : List Int) (k : List DV → Option R) : Option R :=
 k [DV.v (SV.one (At.ints IntKind.u8 32 (feL (inverseL (loadL x)))))]


noncomputable def E25 (N : Nat) : Env := { Θ := Th, Γ := GD, K := K25, ν := N25, fuel := 60, lp := [] }


theorem f25_contract (N : Nat) (hΓ : CtxOk Try.prog GD) : Contract Try.prog 25 { sig := S25, impl := fun _ ds k => call (E25 N) S25 7 B25 R25 ds k } :=
  call_contract (E := E25 N) thOk hΓ mixed ok25.look ok25.body ok25.n ok25.rv ok25.name rfl (by decide) (loopsOk_of (l := []) (by kernel_rfl) trivial)
theorem f25_raw_eq {R : Type} (N : Nat) (x : List Int) (k : List DV → Option R) : call (E25 N) S25 7 B25 R25 [.v (.one (.ints .u8 32 x))] k = f25_raw N x k := by kernel_rfl
end Go.Proofs.Ytcgolglcjfknpaa

/- What rime/field.IsNegative comes to. MADE BY PROGRAM (wip/tools/mkfn.py, EngGen.lean). -/
namespace Go.Proofs.Ytcgolglcjfknpaa
open Go Go.Eng
set_option maxRecDepth 100000
set_option linter.unusedVariables false

noncomputable def f30_raw {R : Type} (N : Nat) (x : List Int) (k : List DV → Option R) : Option R :=
 let v0 : Int := andI IntKind.u8 ((feL (loadL x)).getD (Int.toNat 0) 0) 1;
k [DV.v (SV.one (At.bool (v0 == 1)))]


noncomputable def E30 (N : Nat) : Env := { Θ := Th, Γ := GD, K := K30, ν := N30, fuel := 60, lp := [] }


theorem f30_contract (N : Nat) (hΓ : CtxOk Try.prog GD) : Contract Try.prog 30 { sig := S30, impl := fun _ ds k => call (E30 N) S30 9 B30 R30 ds k } :=
  call_contract (E := E30 N) thOk hΓ mixed ok30.look ok30.body ok30.n ok30.rv ok30.name rfl (by decide) (loopsOk_of (l := []) (by kernel_rfl) trivial)
theorem f30_raw_eq {R : Type} (N : Nat) (x : List Int) (k : List DV → Option R) : call (E30 N) S30 9 B30 R30 [.v (.one (.ints .u8 32 x))] k = f30_raw N x k := by kernel_rfl
end Go.Proofs.Ytcgolglcjfknpaa

/- What rime/field.Canonical comes to. MADE BY PROGRAM (wip/tools/mkfn.py, EngGen.lean). -/
namespace Go.Proofs.Ytcgolglcjfknpaa
open Go Go.Eng
set_option maxRecDepth 100000
set_option linter.unusedVariables false

noncomputable def f41_raw {R : Type} (N : Nat) (x : List Int) (k : List DV → Option R) : Option R :=
 k [DV.v (SV.one (At.bool (Decidable.decide (feL (loadL x) = x))))]


noncomputable def E41 (N : Nat) : Env := { Θ := Th, Γ := GD, K := K41, ν := N41, fuel := 60, lp := [] }


theorem f41_contract (N : Nat) (hΓ : CtxOk Try.prog GD) : Contract Try.prog 41 { sig := S41, impl := fun _ ds k => call (E41 N) S41 8 B41 R41 ds k } :=
  call_contract (E := E41 N) thOk hΓ mixed ok41.look ok41.body ok41.n ok41.rv ok41.name rfl (by decide) (loopsOk_of (l := []) (by kernel_rfl) trivial)
theorem f41_raw_eq {R : Type} (N : Nat) (x : List Int) (k : List DV → Option R) : call (E41 N) S41 8 B41 R41 [.v (.one (.ints .u8 32 x))] k = f41_raw N x k := by kernel_rfl
end Go.Proofs.Ytcgolglcjfknpaa

/- What rime/field.Add comes to. MADE BY PROGRAM (wip/tools/mkfn.py, EngGen.lean). -/
namespace Go.Proofs.Ytcgolglcjfknpaa
open Go Go.Eng
set_option maxRecDepth 100000
set_option linter.unusedVariables false

noncomputable def f43_raw {R : Type} (N : Nat) (x : List Int) (y : List Int) (k : List DV → Option R) : Option R :=
 k [DV.v (SV.one (At.ints IntKind.u8 32 (feL (plusL (loadL x) (loadL y)))))]


noncomputable def E43 (N : Nat) : Env := { Θ := Th, Γ := GD, K := K43, ν := N43, fuel := 60, lp := [] }


theorem f43_contract (N : Nat) (hΓ : CtxOk Try.prog GD) : Contract Try.prog 43 { sig := S43, impl := fun _ ds k => call (E43 N) S43 11 B43 R43 ds k } :=
  call_contract (E := E43 N) thOk hΓ mixed ok43.look ok43.body ok43.n ok43.rv ok43.name rfl (by decide) (loopsOk_of (l := []) (by kernel_rfl) trivial)
theorem f43_raw_eq {R : Type} (N : Nat) (x : List Int) (y : List Int) (k : List DV → Option R) : call (E43 N) S43 11 B43 R43 [.v (.one (.ints .u8 32 x)), .v (.one (.ints .u8 32 y))] k = f43_raw N x y k := by kernel_rfl
end Go.Proofs.Ytcgolglcjfknpaa

/- What rime/field.Sub comes to. MADE BY PROGRAM (wip/tools/mkfn.py, EngGen.lean). -/
namespace Go.Proofs.Ytcgolglcjfknpaa
open Go Go.Eng
set_option maxRecDepth 100000
set_option linter.unusedVariables false

noncomputable def f45_raw {R : Type} (N : Nat) (x : List Int) (y : List Int) (k : List DV → Option R) : Option R :=
 k [DV.v (SV.one (At.ints IntKind.u8 32 (feL (minusL (loadL x) (loadL y)))))]


noncomputable def E45 (N : Nat) : Env := { Θ := Th, Γ := GD, K := K45, ν := N45, fuel := 60, lp := [] }


theorem f45_contract (N : Nat) (hΓ : CtxOk Try.prog GD) : Contract Try.prog 45 { sig := S45, impl := fun _ ds k => call (E45 N) S45 11 B45 R45 ds k } :=
  call_contract (E := E45 N) thOk hΓ mixed ok45.look ok45.body ok45.n ok45.rv ok45.name rfl (by decide) (loopsOk_of (l := []) (by kernel_rfl) trivial)
theorem f45_raw_eq {R : Type} (N : Nat) (x : List Int) (y : List Int) (k : List DV → Option R) : call (E45 N) S45 11 B45 R45 [.v (.one (.ints .u8 32 x)), .v (.one (.ints .u8 32 y))] k = f45_raw N x y k := by kernel_rfl
end Go.Proofs.Ytcgolglcjfknpaa

/- What rime/field.Select comes to. MADE BY PROGRAM (wip/tools/mkfn.py, EngGen.lean). -/
namespace Go.Proofs.Ytcgolglcjfknpaa
open Go Go.Eng
set_option maxRecDepth 100000
set_option linter.unusedVariables false

noncomputable def f53_raw {R : Type} (N : Nat) (x : List Int) (y : List Int) (c : Bool) (k : List DV → Option R) : Option R :=
 bif c then k [DV.v (SV.one (At.ints IntKind.u8 32 (feL (loadL y))))] else k [DV.v (SV.one (At.ints IntKind.u8 32 (feL (loadL x))))]


noncomputable def E53 (N : Nat) : Env := { Θ := Th, Γ := GD, K := K53, ν := N53, fuel := 60, lp := [] }


theorem f53_contract (N : Nat) (hΓ : CtxOk Try.prog GD) : Contract Try.prog 53 { sig := S53, impl := fun _ ds k => call (E53 N) S53 12 B53 R53 ds k } :=
  call_contract (E := E53 N) thOk hΓ mixed ok53.look ok53.body ok53.n ok53.rv ok53.name rfl (by decide) (loopsOk_of (l := []) (by kernel_rfl) trivial)
theorem f53_raw_eq {R : Type} (N : Nat) (x : List Int) (y : List Int) (c : Bool) (k : List DV → Option R) : call (E53 N) S53 12 B53 R53 [.v (.one (.ints .u8 32 x)), .v (.one (.ints .u8 32 y)), .v (.one (.bool c))] k = f53_raw N x y c k := by kernel_rfl
end Go.Proofs.Ytcgolglcjfknpaa

/- field's exported functions, as numbers. -/
namespace Go.Proofs.Ytcgolglcjfknpaa
open Go Go.Eng
set_option maxRecDepth 100000

/-- the element that some bytes stand for -/
noncomputable def vB : List Int → Nat := (stk fun x => numB x % p25519).1
theorem vB_def (x : List Int) : vB x = numB x % p25519 := congrFun (stk fun x => numB x % p25519).2 x
theorem vB_lt (x : List Int) : vB x < p25519 := by rw [vB_def]; exact Nat.mod_lt _ (by decide)
theorem load_vB {x : List Int} (h : okB x = true) : El (loadL x) (vB x) := by rw [vB_def]; exact load_num h
theorem p_lt : p25519 < 2 ^ 256 := by decide
theorem vB_feN {v : Nat} (h : v < p25519) : vB (feN v) = v := by
  rw [vB_def, numB_lt (Nat.lt_trans h p_lt), Nat.mod_eq_of_lt h]
theorem feN_eq {a b : Nat} (ha : a < p25519) (hb : b < p25519) : feN a = feN b ↔ a = b := feN_inj (Nat.lt_trans ha p_lt) (Nat.lt_trans hb p_lt)

noncomputable def addN : Nat → Nat → Nat := (stk fun a b => (a + b) % p25519).1
theorem addN_def (a b : Nat) : addN a b = (a + b) % p25519 := congrFun (congrFun (stk fun a b : Nat => (a + b) % p25519).2 a) b
noncomputable def subN : Nat → Nat → Nat := (stk fun a b => (a + (p25519 - b)) % p25519).1
theorem subN_def (a b : Nat) : subN a b = (a + (p25519 - b)) % p25519 := congrFun (congrFun (stk fun a b : Nat => (a + (p25519 - b)) % p25519).2 a) b
noncomputable def mulN : Nat → Nat → Nat := (stk fun a b => a * b % p25519).1
theorem mulN_def (a b : Nat) : mulN a b = a * b % p25519 := congrFun (congrFun (stk fun a b : Nat => a * b % p25519).2 a) b
theorem plus_N {x y : List Int} {a b : Nat} (hx : El x a) (hy : El y b) : El (plusL x y) (addN a b) := by rw [addN_def]; exact plus_el hx hy
theorem minus_N {x y : List Int} {a b : Nat} (hx : El x a) (hy : El y b) : El (minusL x y) (subN a b) := by rw [subN_def]; exact minus_el hx hy
theorem times_N {x y : List Int} {a b : Nat} (hx : El x a) (hy : El y b) : El (timesL x y) (mulN a b) := by rw [mulN_def]; exact times_el hx hy
theorem addN_lt (a b : Nat) : addN a b < p25519 := by rw [addN_def]; exact Nat.mod_lt _ (by decide)
theorem subN_lt (a b : Nat) : subN a b < p25519 := by rw [subN_def]; exact Nat.mod_lt _ (by decide)
theorem mulN_lt (a b : Nat) : mulN a b < p25519 := by rw [mulN_def]; exact Nat.mod_lt _ (by decide)
/-- (p - 1) / 2 -/
def ph : Nat := 28948022309329048855892746252171976963317496166410141009864396001978282409974
/-- Legendre's symbol, reckoned -/
noncomputable def legR (v : Nat) : Int := bif decide (pw v ph = 0) then 0 else bif decide (pw v ph = 1) then 1 else -1
noncomputable def legI : Nat → Int := (stk legR).1
theorem legI_def (v : Nat) : legI v = legR v := congrFun (stk legR).2 v
/-- bytes, any number of them -/
def okE (e : List Int) : Bool := decide (e.length < 9223372036854775808) && e.all (fun b => decide (0 ≤ b) && decide (b < 256))
theorem okE_of {e : List Int} (h : okE e = true) : e.length < 9223372036854775808 ∧ ∃ l : List Nat, e = nats l ∧ ∀ b ∈ l, b < 256 := by
  unfold okE at h
  rw [Bool.and_eq_true, List.all_eq_true] at h
  obtain ⟨h1, h2⟩ := h
  have h3 : ∀ b ∈ e, 0 ≤ b ∧ b < 256 := fun b hb => by
    have := h2 b hb
    rw [Bool.and_eq_true] at this
    exact ⟨of_decide_eq_true this.1, of_decide_eq_true this.2⟩
  obtain ⟨l, rfl⟩ := nats_of (xs := e) fun b hb => (h3 b hb).1
  exact ⟨of_decide_eq_true h1, l, rfl, fun b hb => Int.ofNat_lt.mp (h3 b (List.mem_map.mpr ⟨b, hb, rfl⟩)).2⟩
/-- words -/
def okW (x : List Int) : Bool := decide (x.length = 5) && x.all (fun b => decide (0 ≤ b) && decide (b < 18446744073709551616))
theorem okW_of {x : List Int} (h : okW x = true) : ∃ a0 a1 a2 a3 a4 : Nat, x = nats [a0, a1, a2, a3, a4] ∧ a0 < 18446744073709551616 ∧ a1 < 18446744073709551616 ∧ a2 < 18446744073709551616 ∧ a3 < 18446744073709551616 ∧ a4 < 18446744073709551616 := by
  unfold okW at h
  rw [Bool.and_eq_true, List.all_eq_true] at h
  obtain ⟨h1, h2⟩ := h
  have h3 : ∀ b ∈ x, 0 ≤ b ∧ b < 18446744073709551616 := fun b hb => by
    have := h2 b hb
    rw [Bool.and_eq_true] at this
    exact ⟨of_decide_eq_true this.1, of_decide_eq_true this.2⟩
  obtain ⟨l, rfl⟩ := nats_of (xs := x) fun b hb => (h3 b hb).1
  have hl : l.length = 5 := by rw [← nats_length]; exact of_decide_eq_true h1
  match l, hl with
  | [a0, a1, a2, a3, a4], _ =>
    have hb : ∀ n ∈ [a0, a1, a2, a3, a4], n < 18446744073709551616 := fun n hn => Int.ofNat_lt.mp (h3 n (List.mem_map.mpr ⟨n, hn, rfl⟩)).2
    exact ⟨a0, a1, a2, a3, a4, rfl, hb _ (by simp), hb _ (by simp), hb _ (by simp), hb _ (by simp), hb _ (by simp)⟩
/-- the number of some limbs -/
def numW (x : List Int) : Nat := valB 2251799813685248 (x.map Int.toNat)
/-- the limbs of a number -/
def limN (v : Nat) : List Int := nats (digs 2251799813685248 5 v)
theorem least_lim {x : List Int} {v : Nat} (h : El x v) : leastL x = limN v := by
  obtain ⟨u0, u1, u2, u3, u4, e, h0, h1, h2, h3, h4, hv⟩ := least_el h
  rw [e, ← hv, ← val5_eq]
  unfold limN
  refine congrArg nats (digs_of (b := 2251799813685248) (by decide) (l := [u0, u1, u2, u3, u4]) ?_).symm
  intro x hx
  simp only [List.mem_cons, List.not_mem_nil, or_false] at hx
  omega
theorem zero_bytes : List.replicate 32 0 = feN 0 := by rw [feN_def]; decide
theorem one_bytes : (List.replicate 32 (0 : Int)).set 0 1 = feN 1 := by rw [feN_def]; decide
theorem feN_bit (v : Nat) : (andI .u8 ((feN v).getD (Int.toNat 0) 0) 1 == 1) = (v % 2 == 1) := by
  rw [feN_def, nats_getD, digs_getD _ _ _ _ (by decide)]
  rw [show Int.toNat 0 = 0 from rfl, Nat.pow_zero, Nat.div_one]
  rw [show andI .u8 ((v % 256 : Nat) : Int) 1 = ((v % 256 % 2 : Nat) : Int) from maskN (k := .u8) (j := 1) rfl (Nat.mod_lt _ (by decide)) (by decide)]
  rw [show v % 256 % 2 = v % 2 by omega]
  rcases Nat.mod_two_eq_zero_or_one v with h | h <;> rw [h] <;> rfl
theorem sel3 {R : Type} (c1 c2 : Bool) (k : List DV → Option R) :
    (bif c1 then k [.v (.one (.int .i64 0))] else bif c2 then k [.v (.one (.int .i64 1))] else k [.v (.one (.int .i64 (-1)))]) = k [.v (.one (.int .i64 (bif c1 then 0 else bif c2 then 1 else -1)))] := by
  cases c1 <;> cases c2 <;> rfl
def joinI (a0 a1 a2 a3 a4 : Int) : List Int :=
  [IntKind.u64.wrap (IntKind.u64.wrap (0 + andI .u64 a0 2251799813685247) + IntKind.u64.wrap (19 * shrI .u64 a4 51)), IntKind.u64.wrap (IntKind.u64.wrap (0 + shrI .u64 a0 51) + andI .u64 a1 2251799813685247), IntKind.u64.wrap (IntKind.u64.wrap (0 + shrI .u64 a1 51) + andI .u64 a2 2251799813685247), IntKind.u64.wrap (IntKind.u64.wrap (0 + shrI .u64 a2 51) + andI .u64 a3 2251799813685247), IntKind.u64.wrap (IntKind.u64.wrap (0 + shrI .u64 a3 51) + andI .u64 a4 2251799813685247)]
theorem join_eq {R : Type} (a0 a1 a2 a3 a4 : Int) (k : List DV → Option R) : f15_raw 0 [a0, a1, a2, a3, a4] k = k [.v (.one (.ints .u8 32 (feL (joinI a0 a1 a2 a3 a4))))] := by kernel_rfl
theorem join_el {a0 a1 a2 a3 a4 : Nat} (h0 : a0 < 18446744073709551616) (h1 : a1 < 18446744073709551616) (h2 : a2 < 18446744073709551616) (h3 : a3 < 18446744073709551616) (h4 : a4 < 18446744073709551616) : El (joinI (a0 : Int) (a1 : Int) (a2 : Int) (a3 : Int) (a4 : Int)) (val5 a0 a1 a2 a3 a4 % p25519) := by
  unfold joinI
  rw [and51 h0, and51 h1, and51 h2, and51 h3, and51 h4, shr51, shr51, shr51, shr51, shr51]
  simp only [Int.zero_add]
  rw [w64 (n := a0 % 2251799813685248) (by omega), show IntKind.u64.wrap (19 * ((a4 / 2251799813685248 : Nat) : Int)) = ((19 * (a4 / 2251799813685248) : Nat) : Int) from w64 (n := 19 * (a4 / 2251799813685248)) (by omega), show IntKind.u64.wrap (((a0 % 2251799813685248 : Nat) : Int) + ((19 * (a4 / 2251799813685248) : Nat) : Int)) = ((a0 % 2251799813685248 + 19 * (a4 / 2251799813685248) : Nat) : Int) from w64 (n := a0 % 2251799813685248 + 19 * (a4 / 2251799813685248)) (by omega)]
  rw [w64 (n := a0 / 2251799813685248) (by omega), show IntKind.u64.wrap (((a0 / 2251799813685248 : Nat) : Int) + ((a1 % 2251799813685248 : Nat) : Int)) = ((a0 / 2251799813685248 + a1 % 2251799813685248 : Nat) : Int) from w64 (n := a0 / 2251799813685248 + a1 % 2251799813685248) (by omega)]
  rw [w64 (n := a1 / 2251799813685248) (by omega), show IntKind.u64.wrap (((a1 / 2251799813685248 : Nat) : Int) + ((a2 % 2251799813685248 : Nat) : Int)) = ((a1 / 2251799813685248 + a2 % 2251799813685248 : Nat) : Int) from w64 (n := a1 / 2251799813685248 + a2 % 2251799813685248) (by omega)]
  rw [w64 (n := a2 / 2251799813685248) (by omega), show IntKind.u64.wrap (((a2 / 2251799813685248 : Nat) : Int) + ((a3 % 2251799813685248 : Nat) : Int)) = ((a2 / 2251799813685248 + a3 % 2251799813685248 : Nat) : Int) from w64 (n := a2 / 2251799813685248 + a3 % 2251799813685248) (by omega)]
  rw [w64 (n := a3 / 2251799813685248) (by omega), show IntKind.u64.wrap (((a3 / 2251799813685248 : Nat) : Int) + ((a4 % 2251799813685248 : Nat) : Int)) = ((a3 / 2251799813685248 + a4 % 2251799813685248 : Nat) : Int) from w64 (n := a3 / 2251799813685248 + a4 % 2251799813685248) (by omega)]
  refine ⟨_, _, _, _, _, rfl, ⟨by omega, by omega, by omega, by omega, by omega⟩, mod_of (q := a4 / 2251799813685248) ?_⟩
  unfold val5 p25519
  omega

theorem f13_num {R : Type} (x : List Int) (hx : (okB x) = true) (k : List DV → Option R) : f13_raw 0 x k = k [.v (.one (.ints .u64 5 (limN (vB x))))] := by
  unfold f13_raw
  rw [least_lim (load_vB hx)]
noncomputable def I13 : (R : Type) → List DV → (List DV → Option R) → Option R := fun _ ds k => match ds with
  | [.v (.one (.ints .u8 32 x))] => bif okB x then k [.v (.one (.ints .u64 5 (limN (vB x))))] else none
  | _ => none
theorem c13 : Contract Try.prog 13 { sig := S13, impl := I13 } := by
  refine Contract.refine fun R ds k r h => ⟨_, f13_contract 0 GD_ok, ?_⟩
  unfold I13 at h
  split at h
  · rename_i x
    rcases hc : okB x with _ | _
    · rw [hc] at h; cases h
    · rw [hc, cond_true] at h
      rw [f13_raw_eq, f13_num x hc]; exact h
  · cases h

theorem f15_num {R : Type} (x : List Int) (hx : (okW x) = true) (k : List DV → Option R) : f15_raw 0 x k = k [.v (.one (.ints .u8 32 (feN (numW x % p25519))))] := by
  obtain ⟨a0, a1, a2, a3, a4, rfl, h0, h1, h2, h3, h4⟩ := okW_of hx
  rw [show numW (nats [a0, a1, a2, a3, a4]) = val5 a0 a1 a2 a3 a4 by unfold numW; rw [nats_toNat, val5_eq]]
  refine (join_eq (a0 : Int) a1 a2 a3 a4 k).trans ?_
  rw [fe_num (join_el h0 h1 h2 h3 h4)]
noncomputable def I15 : (R : Type) → List DV → (List DV → Option R) → Option R := fun _ ds k => match ds with
  | [.v (.one (.ints .u64 5 x))] => bif okW x then k [.v (.one (.ints .u8 32 (feN (numW x % p25519))))] else none
  | _ => none
theorem c15 : Contract Try.prog 15 { sig := S15, impl := I15 } := by
  refine Contract.refine fun R ds k r h => ⟨_, f15_contract 0 GD_ok, ?_⟩
  unfold I15 at h
  split at h
  · rename_i x
    rcases hc : okW x with _ | _
    · rw [hc] at h; cases h
    · rw [hc, cond_true] at h
      rw [f15_raw_eq, f15_num x hc]; exact h
  · cases h

theorem f18_num {R : Type} (x : List Int) (e : List Int) (hx : (okB x) = true) (he : (okE e) = true) (k : List DV → Option R) : f18_raw 0 x e k = k [.v (.one (.ints .u8 32 (feN (pw (vB x) (numB e)))))] := by
  obtain ⟨h1, l, rfl, h2⟩ := okE_of he
  unfold f18_raw
  rw [decide_eq_true h1, cond_true, fe_num (pow_el (load_vB hx) h2), numB_nats, ← pw_eq]
noncomputable def I18 : (R : Type) → List DV → (List DV → Option R) → Option R := fun _ ds k => match ds with
  | [.v (.one (.ints .u8 32 x)), .lst .u8 1 e] => bif okB x && okE e then k [.v (.one (.ints .u8 32 (feN (pw (vB x) (numB e)))))] else none
  | _ => none
theorem c18 : Contract Try.prog 18 { sig := S18, impl := I18 } := by
  refine Contract.refine fun R ds k r h => ⟨_, f18_contract 0 GD_ok, ?_⟩
  unfold I18 at h
  split at h
  · rename_i x e
    rcases hc : okB x && okE e with _ | _
    · rw [hc] at h; cases h
    · rw [hc, cond_true] at h
      simp only [Bool.and_eq_true] at hc
      rw [f18_raw_eq, f18_num x e hc.1 hc.2]; exact h
  · cases h

theorem f21_num {R : Type} (x : List Int) (hx : (okB x) = true) (k : List DV → Option R) : f21_raw 0 x k = k [.v (.one (.int .i64 (legI (vB x))))] := by
  unfold f21_raw
  dsimp only
  rw [one_bytes, zero_bytes, fe_num (pow_lit (load_vB hx) (by decide))]
  rw [show decide (feN (pw (vB x) 28948022309329048855892746252171976963317496166410141009864396001978282409974) = feN 0) = decide (pw (vB x) ph = 0) from decide_eq_decide.mpr (feN_eq (pw_lt _ _) (by decide)), show decide (feN (pw (vB x) 28948022309329048855892746252171976963317496166410141009864396001978282409974) = feN 1) = decide (pw (vB x) ph = 1) from decide_eq_decide.mpr (feN_eq (pw_lt _ _) (by decide))]
  rw [legI_def]
  unfold legR
  exact sel3 _ _ k
noncomputable def I21 : (R : Type) → List DV → (List DV → Option R) → Option R := fun _ ds k => match ds with
  | [.v (.one (.ints .u8 32 x))] => bif okB x then k [.v (.one (.int .i64 (legI (vB x))))] else none
  | _ => none
theorem c21 : Contract Try.prog 21 { sig := S21, impl := I21 } := by
  refine Contract.refine fun R ds k r h => ⟨_, f21_contract 0 GD_ok, ?_⟩
  unfold I21 at h
  split at h
  · rename_i x
    rcases hc : okB x with _ | _
    · rw [hc] at h; cases h
    · rw [hc, cond_true] at h
      rw [f21_raw_eq, f21_num x hc]; exact h
  · cases h

theorem f23_num {R : Type} (x : List Int) (y : List Int) (hx : (okB x) = true) (hy : (okB y) = true) (k : List DV → Option R) : f23_raw 0 x y k = k [.v (.one (.bool (decide (vB x = vB y))))] := by
  unfold f23_raw
  rw [fe_num (load_vB hx), fe_num (load_vB hy)]
  rw [show decide (feN (vB x) = feN (vB y)) = decide (vB x = vB y) from decide_eq_decide.mpr (feN_eq (vB_lt _) (vB_lt _))]
noncomputable def I23 : (R : Type) → List DV → (List DV → Option R) → Option R := fun _ ds k => match ds with
  | [.v (.one (.ints .u8 32 x)), .v (.one (.ints .u8 32 y))] => bif okB x && okB y then k [.v (.one (.bool (decide (vB x = vB y))))] else none
  | _ => none
theorem c23 : Contract Try.prog 23 { sig := S23, impl := I23 } := by
  refine Contract.refine fun R ds k r h => ⟨_, f23_contract 0 GD_ok, ?_⟩
  unfold I23 at h
  split at h
  · rename_i x y
    rcases hc : okB x && okB y with _ | _
    · rw [hc] at h; cases h
    · rw [hc, cond_true] at h
      simp only [Bool.and_eq_true] at hc
      rw [f23_raw_eq, f23_num x y hc.1 hc.2]; exact h
  · cases h

theorem f24_num {R : Type} (x : List Int) (y : List Int) (hx : (okB x) = true) (hy : (okB y) = true) (k : List DV → Option R) : f24_raw 0 x y k = k [.v (.one (.ints .u8 32 (feN (mulN (vB x) (vB y)))))] := by
  unfold f24_raw
  rw [fe_num (times_N (load_vB hx) (load_vB hy))]
noncomputable def I24 : (R : Type) → List DV → (List DV → Option R) → Option R := fun _ ds k => match ds with
  | [.v (.one (.ints .u8 32 x)), .v (.one (.ints .u8 32 y))] => bif okB x && okB y then k [.v (.one (.ints .u8 32 (feN (mulN (vB x) (vB y)))))] else none
  | _ => none
theorem c24 : Contract Try.prog 24 { sig := S24, impl := I24 } := by
  refine Contract.refine fun R ds k r h => ⟨_, f24_contract 0 GD_ok, ?_⟩
  unfold I24 at h
  split at h
  · rename_i x y
    rcases hc : okB x && okB y with _ | _
    · rw [hc] at h; cases h
    · rw [hc, cond_true] at h
      simp only [Bool.and_eq_true] at hc
      rw [f24_raw_eq, f24_num x y hc.1 hc.2]; exact h
  · cases h

theorem f25_num {R : Type} (x : List Int) (hx : (okB x) = true) (k : List DV → Option R) : f25_raw 0 x k = k [.v (.one (.ints .u8 32 (feN (pw (vB x) pm2))))] := by
  unfold f25_raw
  rw [fe_num (inverse_el (load_vB hx))]
noncomputable def I25 : (R : Type) → List DV → (List DV → Option R) → Option R := fun _ ds k => match ds with
  | [.v (.one (.ints .u8 32 x))] => bif okB x then k [.v (.one (.ints .u8 32 (feN (pw (vB x) pm2))))] else none
  | _ => none
theorem c25 : Contract Try.prog 25 { sig := S25, impl := I25 } := by
  refine Contract.refine fun R ds k r h => ⟨_, f25_contract 0 GD_ok, ?_⟩
  unfold I25 at h
  split at h
  · rename_i x
    rcases hc : okB x with _ | _
    · rw [hc] at h; cases h
    · rw [hc, cond_true] at h
      rw [f25_raw_eq, f25_num x hc]; exact h
  · cases h

theorem f30_num {R : Type} (x : List Int) (hx : (okB x) = true) (k : List DV → Option R) : f30_raw 0 x k = k [.v (.one (.bool (vB x % 2 == 1)))] := by
  unfold f30_raw
  dsimp only
  rw [fe_num (load_vB hx), feN_bit]
noncomputable def I30 : (R : Type) → List DV → (List DV → Option R) → Option R := fun _ ds k => match ds with
  | [.v (.one (.ints .u8 32 x))] => bif okB x then k [.v (.one (.bool (vB x % 2 == 1)))] else none
  | _ => none
theorem c30 : Contract Try.prog 30 { sig := S30, impl := I30 } := by
  refine Contract.refine fun R ds k r h => ⟨_, f30_contract 0 GD_ok, ?_⟩
  unfold I30 at h
  split at h
  · rename_i x
    rcases hc : okB x with _ | _
    · rw [hc] at h; cases h
    · rw [hc, cond_true] at h
      rw [f30_raw_eq, f30_num x hc]; exact h
  · cases h

theorem f41_num {R : Type} (x : List Int) (hx : (okB x) = true) (k : List DV → Option R) : f41_raw 0 x k = k [.v (.one (.bool (decide (numB x < p25519))))] := by
  unfold f41_raw
  rw [fe_num (load_vB hx)]
  rw [show decide (feN (vB x) = x) = decide (numB x < p25519) from decide_eq_decide.mpr ?_]
  constructor
  · intro h; rw [← h, numB_lt (Nat.lt_trans (vB_lt x) p_lt)]; exact vB_lt x
  · intro h; rw [vB_def, Nat.mod_eq_of_lt h, feN_numB hx]
noncomputable def I41 : (R : Type) → List DV → (List DV → Option R) → Option R := fun _ ds k => match ds with
  | [.v (.one (.ints .u8 32 x))] => bif okB x then k [.v (.one (.bool (decide (numB x < p25519))))] else none
  | _ => none
theorem c41 : Contract Try.prog 41 { sig := S41, impl := I41 } := by
  refine Contract.refine fun R ds k r h => ⟨_, f41_contract 0 GD_ok, ?_⟩
  unfold I41 at h
  split at h
  · rename_i x
    rcases hc : okB x with _ | _
    · rw [hc] at h; cases h
    · rw [hc, cond_true] at h
      rw [f41_raw_eq, f41_num x hc]; exact h
  · cases h

theorem f43_num {R : Type} (x : List Int) (y : List Int) (hx : (okB x) = true) (hy : (okB y) = true) (k : List DV → Option R) : f43_raw 0 x y k = k [.v (.one (.ints .u8 32 (feN (addN (vB x) (vB y)))))] := by
  unfold f43_raw
  rw [fe_num (plus_N (load_vB hx) (load_vB hy))]
noncomputable def I43 : (R : Type) → List DV → (List DV → Option R) → Option R := fun _ ds k => match ds with
  | [.v (.one (.ints .u8 32 x)), .v (.one (.ints .u8 32 y))] => bif okB x && okB y then k [.v (.one (.ints .u8 32 (feN (addN (vB x) (vB y)))))] else none
  | _ => none
theorem c43 : Contract Try.prog 43 { sig := S43, impl := I43 } := by
  refine Contract.refine fun R ds k r h => ⟨_, f43_contract 0 GD_ok, ?_⟩
  unfold I43 at h
  split at h
  · rename_i x y
    rcases hc : okB x && okB y with _ | _
    · rw [hc] at h; cases h
    · rw [hc, cond_true] at h
      simp only [Bool.and_eq_true] at hc
      rw [f43_raw_eq, f43_num x y hc.1 hc.2]; exact h
  · cases h

theorem f45_num {R : Type} (x : List Int) (y : List Int) (hx : (okB x) = true) (hy : (okB y) = true) (k : List DV → Option R) : f45_raw 0 x y k = k [.v (.one (.ints .u8 32 (feN (subN (vB x) (vB y)))))] := by
  unfold f45_raw
  rw [fe_num (minus_N (load_vB hx) (load_vB hy))]
noncomputable def I45 : (R : Type) → List DV → (List DV → Option R) → Option R := fun _ ds k => match ds with
  | [.v (.one (.ints .u8 32 x)), .v (.one (.ints .u8 32 y))] => bif okB x && okB y then k [.v (.one (.ints .u8 32 (feN (subN (vB x) (vB y)))))] else none
  | _ => none
theorem c45 : Contract Try.prog 45 { sig := S45, impl := I45 } := by
  refine Contract.refine fun R ds k r h => ⟨_, f45_contract 0 GD_ok, ?_⟩
  unfold I45 at h
  split at h
  · rename_i x y
    rcases hc : okB x && okB y with _ | _
    · rw [hc] at h; cases h
    · rw [hc, cond_true] at h
      simp only [Bool.and_eq_true] at hc
      rw [f45_raw_eq, f45_num x y hc.1 hc.2]; exact h
  · cases h

theorem f53_num {R : Type} (x : List Int) (y : List Int) (c : Bool) (hx : (okB x) = true) (hy : (okB y) = true) (k : List DV → Option R) : f53_raw 0 x y c k = k [.v (.one (.ints .u8 32 (feN (bif c then vB y else vB x))))] := by
  unfold f53_raw
  rw [fe_num (load_vB hx), fe_num (load_vB hy)]
  cases c <;> rfl
noncomputable def I53 : (R : Type) → List DV → (List DV → Option R) → Option R := fun _ ds k => match ds with
  | [.v (.one (.ints .u8 32 x)), .v (.one (.ints .u8 32 y)), .v (.one (.bool c))] => bif okB x && okB y then k [.v (.one (.ints .u8 32 (feN (bif c then vB y else vB x))))] else none
  | _ => none
theorem c53 : Contract Try.prog 53 { sig := S53, impl := I53 } := by
  refine Contract.refine fun R ds k r h => ⟨_, f53_contract 0 GD_ok, ?_⟩
  unfold I53 at h
  split at h
  · rename_i x y c
    rcases hc : okB x && okB y with _ | _
    · rw [hc] at h; cases h
    · rw [hc, cond_true] at h
      simp only [Bool.and_eq_true] at hc
      rw [f53_raw_eq, f53_num x y c hc.1 hc.2]; exact h
  · cases h

noncomputable def GE : Ctx := [(66, { sig := S66, impl := I66 }), (70, { sig := S70, impl := I70 }), (72, { sig := S72, impl := I72 }), (73, { sig := S73, impl := I73 }), (74, { sig := S74, impl := I74 }), (75, { sig := S75, impl := I75 }), (94, { sig := S94, impl := I94 }), (97, { sig := S97, impl := I97 }), (13, { sig := S13, impl := I13 }), (15, { sig := S15, impl := I15 }), (18, { sig := S18, impl := I18 }), (21, { sig := S21, impl := I21 }), (23, { sig := S23, impl := I23 }), (24, { sig := S24, impl := I24 }), (25, { sig := S25, impl := I25 }), (30, { sig := S30, impl := I30 }), (41, { sig := S41, impl := I41 }), (43, { sig := S43, impl := I43 }), (45, { sig := S45, impl := I45 }), (53, { sig := S53, impl := I53 })]
theorem GE_ok : CtxOk Try.prog GE := ctxOk_cons ok66 rfl c66 (ctxOk_cons ok70 rfl c70 (ctxOk_cons ok72 rfl c72 (ctxOk_cons ok73 rfl c73 (ctxOk_cons ok74 rfl c74 (ctxOk_cons ok75 rfl c75 (ctxOk_cons ok94 rfl c94 (ctxOk_cons ok97 rfl c97 (ctxOk_cons ok13 rfl c13 (ctxOk_cons ok15 rfl c15 (ctxOk_cons ok18 rfl c18 (ctxOk_cons ok21 rfl c21 (ctxOk_cons ok23 rfl c23 (ctxOk_cons ok24 rfl c24 (ctxOk_cons ok25 rfl c25 (ctxOk_cons ok30 rfl c30 (ctxOk_cons ok41 rfl c41 (ctxOk_cons ok43 rfl c43 (ctxOk_cons ok45 rfl c45 (ctxOk_cons ok53 rfl c53 ctxOk_nil)))))))))))))))))))
end Go.Proofs.Ytcgolglcjfknpaa

/- What rime/field.Neg comes to. MADE BY PROGRAM (wip/tools/mkfn.py, EngGen.lean). -/
namespace Go.Proofs.Ytcgolglcjfknpaa
open Go Go.Eng
set_option maxRecDepth 100000
set_option linter.unusedVariables false

noncomputable def f22_raw {R : Type} (N : Nat) (x : List Int) (k : List DV → Option R) : Option R :=
 bif okB (List.replicate 32 0) && okB x then k [DV.v (SV.one (At.ints IntKind.u8 32 (feN (subN (vB (List.replicate 32 0)) (vB x)))))] else Option.none


noncomputable def E22 (N : Nat) : Env := { Θ := Th, Γ := GE, K := K22, ν := N22, fuel := 60, lp := [] }


theorem f22_contract (N : Nat) (hΓ : CtxOk Try.prog GE) : Contract Try.prog 22 { sig := S22, impl := fun _ ds k => call (E22 N) S22 6 B22 R22 ds k } :=
  call_contract (E := E22 N) thOk hΓ mixed ok22.look ok22.body ok22.n ok22.rv ok22.name rfl (by decide) (loopsOk_of (l := []) (by kernel_rfl) trivial)
theorem f22_raw_eq {R : Type} (N : Nat) (x : List Int) (k : List DV → Option R) : call (E22 N) S22 6 B22 R22 [.v (.one (.ints .u8 32 x))] k = f22_raw N x k := by kernel_rfl
end Go.Proofs.Ytcgolglcjfknpaa

/- What rime/field.Square comes to. MADE BY PROGRAM (wip/tools/mkfn.py, EngGen.lean). -/
namespace Go.Proofs.Ytcgolglcjfknpaa
open Go Go.Eng
set_option maxRecDepth 100000
set_option linter.unusedVariables false

noncomputable def f42_raw {R : Type} (N : Nat) (x : List Int) (k : List DV → Option R) : Option R :=
 bif okB x && okB x then k [DV.v (SV.one (At.ints IntKind.u8 32 (feN (mulN (vB x) (vB x)))))] else Option.none


noncomputable def E42 (N : Nat) : Env := { Θ := Th, Γ := GE, K := K42, ν := N42, fuel := 60, lp := [] }


theorem f42_contract (N : Nat) (hΓ : CtxOk Try.prog GE) : Contract Try.prog 42 { sig := S42, impl := fun _ ds k => call (E42 N) S42 6 B42 R42 ds k } :=
  call_contract (E := E42 N) thOk hΓ mixed ok42.look ok42.body ok42.n ok42.rv ok42.name rfl (by decide) (loopsOk_of (l := []) (by kernel_rfl) trivial)
theorem f42_raw_eq {R : Type} (N : Nat) (x : List Int) (k : List DV → Option R) : call (E42 N) S42 6 B42 R42 [.v (.one (.ints .u8 32 x))] k = f42_raw N x k := by kernel_rfl
end Go.Proofs.Ytcgolglcjfknpaa

/- What rime/field.Double comes to. MADE BY PROGRAM (wip/tools/mkfn.py, EngGen.lean). -/
namespace Go.Proofs.Ytcgolglcjfknpaa
open Go Go.Eng
set_option maxRecDepth 100000
set_option linter.unusedVariables false

noncomputable def f48_raw {R : Type} (N : Nat) (x : List Int) (k : List DV → Option R) : Option R :=
 bif okB x && okB x then k [DV.v (SV.one (At.ints IntKind.u8 32 (feN (addN (vB x) (vB x)))))] else Option.none


noncomputable def E48 (N : Nat) : Env := { Θ := Th, Γ := GE, K := K48, ν := N48, fuel := 60, lp := [] }


theorem f48_contract (N : Nat) (hΓ : CtxOk Try.prog GE) : Contract Try.prog 48 { sig := S48, impl := fun _ ds k => call (E48 N) S48 6 B48 R48 ds k } :=
  call_contract (E := E48 N) thOk hΓ mixed ok48.look ok48.body ok48.n ok48.rv ok48.name rfl (by decide) (loopsOk_of (l := []) (by kernel_rfl) trivial)
theorem f48_raw_eq {R : Type} (N : Nat) (x : List Int) (k : List DV → Option R) : call (E48 N) S48 6 B48 R48 [.v (.one (.ints .u8 32 x))] k = f48_raw N x k := by kernel_rfl
end Go.Proofs.Ytcgolglcjfknpaa

/- What rime/field.FromInt comes to. MADE BY PROGRAM (wip/tools/mkfn.py, EngGen.lean). -/
namespace Go.Proofs.Ytcgolglcjfknpaa
open Go Go.Eng
set_option maxRecDepth 100000
set_option linter.unusedVariables false

noncomputable def f55_raw {R : Type} (N : Nat) (x : Int) (k : List DV → Option R) : Option R :=
 let v0 : List Int := (List.replicate 5 0).set 0 x;
bif okW v0 then k [DV.v (SV.one (At.ints IntKind.u8 32 (feN (numW v0 % p25519))))] else Option.none


noncomputable def E55 (N : Nat) : Env := { Θ := Th, Γ := GE, K := K55, ν := N55, fuel := 60, lp := [] }


theorem f55_contract (N : Nat) (hΓ : CtxOk Try.prog GE) : Contract Try.prog 55 { sig := S55, impl := fun _ ds k => call (E55 N) S55 6 B55 R55 ds k } :=
  call_contract (E := E55 N) thOk hΓ mixed ok55.look ok55.body ok55.n ok55.rv ok55.name rfl (by decide) (loopsOk_of (l := []) (by kernel_rfl) trivial)
theorem f55_raw_eq {R : Type} (N : Nat) (x : Int) (k : List DV → Option R) : call (E55 N) S55 6 B55 R55 [.v (.one (.int .u64 x))] k = f55_raw N x k := by kernel_rfl
end Go.Proofs.Ytcgolglcjfknpaa

/- field's exported functions, as numbers, go on. -/
namespace Go.Proofs.Ytcgolglcjfknpaa
open Go Go.Eng
set_option maxRecDepth 100000

def okU (x : Int) : Bool := decide (0 ≤ x) && decide (x < 18446744073709551616)
theorem okU_of {x : Int} (h : okU x = true) : ∃ n : Nat, x = (n : Int) ∧ n < 18446744073709551616 := by
  unfold okU at h
  rw [Bool.and_eq_true] at h
  have h1 := of_decide_eq_true h.1
  have h2 := of_decide_eq_true h.2
  exact ⟨x.toNat, by omega, by omega⟩
theorem okB_zero : okB (List.replicate 32 0) = true := by decide
theorem vB_zero : vB (List.replicate 32 0) = 0 := by rw [vB_def]; decide

theorem f22_num {R : Type} (x : List Int) (hx : (okB x) = true) (k : List DV → Option R) : f22_raw 0 x k = k [.v (.one (.ints .u8 32 (feN (subN 0 (vB x)))))] := by
  unfold f22_raw
  rw [okB_zero, hx, vB_zero]; rfl
noncomputable def I22 : (R : Type) → List DV → (List DV → Option R) → Option R := fun _ ds k => match ds with
  | [.v (.one (.ints .u8 32 x))] => bif okB x then k [.v (.one (.ints .u8 32 (feN (subN 0 (vB x)))))] else none
  | _ => none
theorem c22 : Contract Try.prog 22 { sig := S22, impl := I22 } := by
  refine Contract.refine fun R ds k r h => ⟨_, f22_contract 0 GE_ok, ?_⟩
  unfold I22 at h
  split at h
  · rename_i x
    rcases hc : okB x with _ | _
    · rw [hc] at h; cases h
    · rw [hc, cond_true] at h
      rw [f22_raw_eq, f22_num x hc]; exact h
  · cases h

theorem f42_num {R : Type} (x : List Int) (hx : (okB x) = true) (k : List DV → Option R) : f42_raw 0 x k = k [.v (.one (.ints .u8 32 (feN (mulN (vB x) (vB x)))))] := by
  unfold f42_raw
  rw [hx]; rfl
noncomputable def I42 : (R : Type) → List DV → (List DV → Option R) → Option R := fun _ ds k => match ds with
  | [.v (.one (.ints .u8 32 x))] => bif okB x then k [.v (.one (.ints .u8 32 (feN (mulN (vB x) (vB x)))))] else none
  | _ => none
theorem c42 : Contract Try.prog 42 { sig := S42, impl := I42 } := by
  refine Contract.refine fun R ds k r h => ⟨_, f42_contract 0 GE_ok, ?_⟩
  unfold I42 at h
  split at h
  · rename_i x
    rcases hc : okB x with _ | _
    · rw [hc] at h; cases h
    · rw [hc, cond_true] at h
      rw [f42_raw_eq, f42_num x hc]; exact h
  · cases h

theorem f48_num {R : Type} (x : List Int) (hx : (okB x) = true) (k : List DV → Option R) : f48_raw 0 x k = k [.v (.one (.ints .u8 32 (feN (addN (vB x) (vB x)))))] := by
  unfold f48_raw
  rw [hx]; rfl
noncomputable def I48 : (R : Type) → List DV → (List DV → Option R) → Option R := fun _ ds k => match ds with
  | [.v (.one (.ints .u8 32 x))] => bif okB x then k [.v (.one (.ints .u8 32 (feN (addN (vB x) (vB x)))))] else none
  | _ => none
theorem c48 : Contract Try.prog 48 { sig := S48, impl := I48 } := by
  refine Contract.refine fun R ds k r h => ⟨_, f48_contract 0 GE_ok, ?_⟩
  unfold I48 at h
  split at h
  · rename_i x
    rcases hc : okB x with _ | _
    · rw [hc] at h; cases h
    · rw [hc, cond_true] at h
      rw [f48_raw_eq, f48_num x hc]; exact h
  · cases h

theorem f55_num {R : Type} (x : Int) (hx : (okU x) = true) (k : List DV → Option R) : f55_raw 0 x k = k [.v (.one (.ints .u8 32 (feN (x.toNat))))] := by
  obtain ⟨n, rfl, hn⟩ := okU_of hx
  have e1 : okW ((List.replicate 5 0).set 0 (n : Int)) = true := by
    show (decide (_ = 5) && (((decide (0 ≤ (n : Int)) && decide ((n : Int) < 18446744073709551616)) && (List.all [0, 0, 0, 0] fun b => decide (0 ≤ b) && decide (b < (18446744073709551616 : Int)))))) = true
    rw [decide_eq_true (Int.natCast_nonneg n), decide_eq_true (show (n : Int) < 18446744073709551616 by omega)]
    rfl
  have e2 : numW ((List.replicate 5 0).set 0 (n : Int)) = n := by
    show valB 2251799813685248 [(n : Int).toNat, 0, 0, 0, 0] = n
    simp [valB]
  unfold f55_raw
  dsimp only
  rw [e1, cond_true, e2, Nat.mod_eq_of_lt (Nat.lt_trans hn (by decide))]
  rfl
noncomputable def I55 : (R : Type) → List DV → (List DV → Option R) → Option R := fun _ ds k => match ds with
  | [.v (.one (.int .u64 x))] => bif okU x then k [.v (.one (.ints .u8 32 (feN (x.toNat))))] else none
  | _ => none
theorem c55 : Contract Try.prog 55 { sig := S55, impl := I55 } := by
  refine Contract.refine fun R ds k r h => ⟨_, f55_contract 0 GE_ok, ?_⟩
  unfold I55 at h
  split at h
  · rename_i x
    rcases hc : okU x with _ | _
    · rw [hc] at h; cases h
    · rw [hc, cond_true] at h
      rw [f55_raw_eq, f55_num x hc]; exact h
  · cases h

noncomputable def GF : Ctx := [(66, { sig := S66, impl := I66 }), (70, { sig := S70, impl := I70 }), (72, { sig := S72, impl := I72 }), (73, { sig := S73, impl := I73 }), (74, { sig := S74, impl := I74 }), (75, { sig := S75, impl := I75 }), (94, { sig := S94, impl := I94 }), (97, { sig := S97, impl := I97 }), (13, { sig := S13, impl := I13 }), (15, { sig := S15, impl := I15 }), (18, { sig := S18, impl := I18 }), (21, { sig := S21, impl := I21 }), (23, { sig := S23, impl := I23 }), (24, { sig := S24, impl := I24 }), (25, { sig := S25, impl := I25 }), (30, { sig := S30, impl := I30 }), (41, { sig := S41, impl := I41 }), (43, { sig := S43, impl := I43 }), (45, { sig := S45, impl := I45 }), (53, { sig := S53, impl := I53 }), (22, { sig := S22, impl := I22 }), (42, { sig := S42, impl := I42 }), (48, { sig := S48, impl := I48 }), (55, { sig := S55, impl := I55 })]
theorem GF_ok : CtxOk Try.prog GF := ctxOk_cons ok66 rfl c66 (ctxOk_cons ok70 rfl c70 (ctxOk_cons ok72 rfl c72 (ctxOk_cons ok73 rfl c73 (ctxOk_cons ok74 rfl c74 (ctxOk_cons ok75 rfl c75 (ctxOk_cons ok94 rfl c94 (ctxOk_cons ok97 rfl c97 (ctxOk_cons ok13 rfl c13 (ctxOk_cons ok15 rfl c15 (ctxOk_cons ok18 rfl c18 (ctxOk_cons ok21 rfl c21 (ctxOk_cons ok23 rfl c23 (ctxOk_cons ok24 rfl c24 (ctxOk_cons ok25 rfl c25 (ctxOk_cons ok30 rfl c30 (ctxOk_cons ok41 rfl c41 (ctxOk_cons ok43 rfl c43 (ctxOk_cons ok45 rfl c45 (ctxOk_cons ok53 rfl c53 (ctxOk_cons ok22 rfl c22 (ctxOk_cons ok42 rfl c42 (ctxOk_cons ok48 rfl c48 (ctxOk_cons ok55 rfl c55 ctxOk_nil)))))))))))))))))))))))
end Go.Proofs.Ytcgolglcjfknpaa

/- What rime/field.Abs comes to. MADE BY PROGRAM (wip/tools/mkfn.py, EngGen.lean). -/
namespace Go.Proofs.Ytcgolglcjfknpaa
open Go Go.Eng
set_option maxRecDepth 100000
set_option linter.unusedVariables false

noncomputable def f32_raw {R : Type} (N : Nat) (x : List Int) (k : List DV → Option R) : Option R :=
 bif okB x then
 bif okB x then
 bif okB x && okB (feN (subN 0 (vB x))) then
 let v0 : Nat := bif vB x % 2 == 1 then vB (feN (subN 0 (vB x))) else vB x;
 k [DV.v (SV.one (At.ints IntKind.u8 32 (feN v0)))]
 else Option.none
 else Option.none
else Option.none


noncomputable def E32 (N : Nat) : Env := { Θ := Th, Γ := GF, K := K32, ν := N32, fuel := 60, lp := [] }


theorem f32_contract (N : Nat) (hΓ : CtxOk Try.prog GF) : Contract Try.prog 32 { sig := S32, impl := fun _ ds k => call (E32 N) S32 9 B32 R32 ds k } :=
  call_contract (E := E32 N) thOk hΓ mixed ok32.look ok32.body ok32.n ok32.rv ok32.name rfl (by decide) (loopsOk_of (l := []) (by kernel_rfl) trivial)
theorem f32_raw_eq {R : Type} (N : Nat) (x : List Int) (k : List DV → Option R) : call (E32 N) S32 9 B32 R32 [.v (.one (.ints .u8 32 x))] k = f32_raw N x k := by kernel_rfl
end Go.Proofs.Ytcgolglcjfknpaa

/- What rime/field.D comes to. MADE BY PROGRAM (wip/tools/mkfn.py, EngGen.lean). -/
namespace Go.Proofs.Ytcgolglcjfknpaa
open Go Go.Eng
set_option maxRecDepth 100000
set_option linter.unusedVariables false

noncomputable def f37_raw {R : Type} (N : Nat)  (k : List DV → Option R) : Option R :=
 bif okB (feN (Int.toNat 121666)) then bif okB (feN (Int.toNat 121665)) && okB (feN (pw (vB (feN (Int.toNat 121666))) pm2)) then bif okB (feN (mulN (vB (feN (Int.toNat 121665))) (vB (feN (pw (vB (feN (Int.toNat 121666))) pm2))))) then k [DV.v (SV.one (At.ints IntKind.u8 32 (feN (subN 0 (vB (feN (mulN (vB (feN (Int.toNat 121665))) (vB (feN (pw (vB (feN (Int.toNat 121666))) pm2))))))))))] else Option.none else Option.none else Option.none


noncomputable def E37 (N : Nat) : Env := { Θ := Th, Γ := GF, K := K37, ν := N37, fuel := 60, lp := [] }


theorem f37_contract (N : Nat) (hΓ : CtxOk Try.prog GF) : Contract Try.prog 37 { sig := S37, impl := fun _ ds k => call (E37 N) S37 6 B37 R37 ds k } :=
  call_contract (E := E37 N) thOk hΓ mixed ok37.look ok37.body ok37.n ok37.rv ok37.name rfl (by decide) (loopsOk_of (l := []) (by kernel_rfl) trivial)
theorem f37_raw_eq {R : Type} (N : Nat)  (k : List DV → Option R) : call (E37 N) S37 6 B37 R37 [] k = f37_raw N  k := by kernel_rfl
end Go.Proofs.Ytcgolglcjfknpaa

/- field's exported functions, as numbers: Abs, D. -/
namespace Go.Proofs.Ytcgolglcjfknpaa
open Go Go.Eng
set_option maxRecDepth 100000

noncomputable def absN : Nat → Nat := (stk fun v => bif v % 2 == 1 then subN 0 v else v).1
theorem absN_def (v : Nat) : absN v = bif v % 2 == 1 then subN 0 v else v := congrFun (stk fun v => bif v % 2 == 1 then subN 0 v else v).2 v
theorem absN_lt {v : Nat} (h : v < p25519) : absN v < p25519 := by
  rw [absN_def]; cases (v % 2 == 1)
  · exact h
  · exact subN_lt _ _
/-- the curve's d -/
def dN : Nat := 37095705934669439343138083508754565189542113879843219016388785533085940283555
/-- a root of -1 -/
def iN : Nat := 19681161376707505956807079304988542015446066515923890162744021073123829784752

theorem f32_num {R : Type} (x : List Int) (hx : (okB x) = true) (k : List DV → Option R) : f32_raw 0 x k = k [.v (.one (.ints .u8 32 (feN (absN (vB x)))))] := by
  unfold f32_raw
  rw [hx, okB_feN, vB_feN (subN_lt _ _), absN_def]; rfl
noncomputable def I32 : (R : Type) → List DV → (List DV → Option R) → Option R := fun _ ds k => match ds with
  | [.v (.one (.ints .u8 32 x))] => bif okB x then k [.v (.one (.ints .u8 32 (feN (absN (vB x)))))] else none
  | _ => none
theorem c32 : Contract Try.prog 32 { sig := S32, impl := I32 } := by
  refine Contract.refine fun R ds k r h => ⟨_, f32_contract 0 GF_ok, ?_⟩
  unfold I32 at h
  split at h
  · rename_i x
    rcases hc : okB x with _ | _
    · rw [hc] at h; cases h
    · rw [hc, cond_true] at h
      rw [f32_raw_eq, f32_num x hc]; exact h
  · cases h

theorem f37_num {R : Type}   (k : List DV → Option R) : f37_raw 0  k = k [.v (.one (.ints .u8 32 (feN (dN))))] := by
  unfold f37_raw
  simp only [okB_feN, cond_true, Bool.and_self]
  rw [vB_feN (v := Int.toNat 121665) (by decide), vB_feN (v := Int.toNat 121666) (by decide), vB_feN (pw_lt _ _), vB_feN (mulN_lt _ _)]
  rw [show subN 0 (mulN (Int.toNat 121665) (pw (Int.toNat 121666) pm2)) = dN by rw [subN_def, mulN_def, pw_pm]; decide +kernel]
noncomputable def I37 : (R : Type) → List DV → (List DV → Option R) → Option R := fun _ ds k => match ds with
  | [] => k [.v (.one (.ints .u8 32 (feN (dN))))]
  | _ => none
theorem c37 : Contract Try.prog 37 { sig := S37, impl := I37 } := by
  refine Contract.refine fun R ds k r h => ⟨_, f37_contract 0 GF_ok, ?_⟩
  unfold I37 at h
  split at h
  · rw [f37_raw_eq, f37_num]; exact h
  · cases h

noncomputable def GG : Ctx := [(66, { sig := S66, impl := I66 }), (70, { sig := S70, impl := I70 }), (72, { sig := S72, impl := I72 }), (73, { sig := S73, impl := I73 }), (74, { sig := S74, impl := I74 }), (75, { sig := S75, impl := I75 }), (94, { sig := S94, impl := I94 }), (97, { sig := S97, impl := I97 }), (13, { sig := S13, impl := I13 }), (15, { sig := S15, impl := I15 }), (18, { sig := S18, impl := I18 }), (21, { sig := S21, impl := I21 }), (23, { sig := S23, impl := I23 }), (24, { sig := S24, impl := I24 }), (25, { sig := S25, impl := I25 }), (30, { sig := S30, impl := I30 }), (41, { sig := S41, impl := I41 }), (43, { sig := S43, impl := I43 }), (45, { sig := S45, impl := I45 }), (53, { sig := S53, impl := I53 }), (22, { sig := S22, impl := I22 }), (42, { sig := S42, impl := I42 }), (48, { sig := S48, impl := I48 }), (55, { sig := S55, impl := I55 }), (32, { sig := S32, impl := I32 }), (37, { sig := S37, impl := I37 })]
theorem GG_ok : CtxOk Try.prog GG := ctxOk_cons ok66 rfl c66 (ctxOk_cons ok70 rfl c70 (ctxOk_cons ok72 rfl c72 (ctxOk_cons ok73 rfl c73 (ctxOk_cons ok74 rfl c74 (ctxOk_cons ok75 rfl c75 (ctxOk_cons ok94 rfl c94 (ctxOk_cons ok97 rfl c97 (ctxOk_cons ok13 rfl c13 (ctxOk_cons ok15 rfl c15 (ctxOk_cons ok18 rfl c18 (ctxOk_cons ok21 rfl c21 (ctxOk_cons ok23 rfl c23 (ctxOk_cons ok24 rfl c24 (ctxOk_cons ok25 rfl c25 (ctxOk_cons ok30 rfl c30 (ctxOk_cons ok41 rfl c41 (ctxOk_cons ok43 rfl c43 (ctxOk_cons ok45 rfl c45 (ctxOk_cons ok53 rfl c53 (ctxOk_cons ok22 rfl c22 (ctxOk_cons ok42 rfl c42 (ctxOk_cons ok48 rfl c48 (ctxOk_cons ok55 rfl c55 (ctxOk_cons ok32 rfl c32 (ctxOk_cons ok37 rfl c37 ctxOk_nil)))))))))))))))))))))))))
end Go.Proofs.Ytcgolglcjfknpaa

/- What rime/field.SqrtM1 comes to. MADE BY PROGRAM (wip/tools/mkfn.py, EngGen.lean). -/
namespace Go.Proofs.Ytcgolglcjfknpaa
open Go Go.Eng
set_option maxRecDepth 100000
set_option linter.unusedVariables false

noncomputable def f39_raw {R : Type} (N : Nat)  (k : List DV → Option R) : Option R :=
 bif okB (feL (powL (loadL (feN (Int.toNat 2))) (nats (digs 256 32 14474011154664524427946373126085988481658748083205070504932198000989141204987)))) then k [DV.v (SV.one (At.ints IntKind.u8 32 (feN (absN (vB (feL (powL (loadL (feN (Int.toNat 2))) (nats (digs 256 32 14474011154664524427946373126085988481658748083205070504932198000989141204987)))))))))] else Option.none


noncomputable def E39 (N : Nat) : Env := { Θ := Th, Γ := GG, K := K39, ν := N39, fuel := 60, lp := [] }


theorem f39_contract (N : Nat) (hΓ : CtxOk Try.prog GG) : Contract Try.prog 39 { sig := S39, impl := fun _ ds k => call (E39 N) S39 7 B39 R39 ds k } :=
  call_contract (E := E39 N) thOk hΓ mixed ok39.look ok39.body ok39.n ok39.rv ok39.name rfl (by decide) (loopsOk_of (l := []) (by kernel_rfl) trivial)
theorem f39_raw_eq {R : Type} (N : Nat)  (k : List DV → Option R) : call (E39 N) S39 7 B39 R39 [] k = f39_raw N  k := by kernel_rfl
end Go.Proofs.Ytcgolglcjfknpaa

/- field's exported functions, as numbers: SqrtM1. -/
namespace Go.Proofs.Ytcgolglcjfknpaa
open Go Go.Eng
set_option maxRecDepth 100000

theorem f39_num {R : Type}   (k : List DV → Option R) : f39_raw 0  k = k [.v (.one (.ints .u8 32 (feN (iN))))] := by
  unfold f39_raw
  simp only [fe_num (pow_lit (load_vB (okB_feN _)) (by decide : 14474011154664524427946373126085988481658748083205070504932198000989141204987 < _)), okB_feN, cond_true]
  rw [vB_feN (v := Int.toNat 2) (by decide), vB_feN (pw_lt _ _)]
  rw [show absN (pw (Int.toNat 2) 14474011154664524427946373126085988481658748083205070504932198000989141204987) = iN by rw [absN_def, subN_def, pw_pm]; decide +kernel]
noncomputable def I39 : (R : Type) → List DV → (List DV → Option R) → Option R := fun _ ds k => match ds with
  | [] => k [.v (.one (.ints .u8 32 (feN (iN))))]
  | _ => none
theorem c39 : Contract Try.prog 39 { sig := S39, impl := I39 } := by
  refine Contract.refine fun R ds k r h => ⟨_, f39_contract 0 GG_ok, ?_⟩
  unfold I39 at h
  split at h
  · rw [f39_raw_eq, f39_num]; exact h
  · cases h

noncomputable def GH : Ctx := [(66, { sig := S66, impl := I66 }), (70, { sig := S70, impl := I70 }), (72, { sig := S72, impl := I72 }), (73, { sig := S73, impl := I73 }), (74, { sig := S74, impl := I74 }), (75, { sig := S75, impl := I75 }), (94, { sig := S94, impl := I94 }), (97, { sig := S97, impl := I97 }), (13, { sig := S13, impl := I13 }), (15, { sig := S15, impl := I15 }), (18, { sig := S18, impl := I18 }), (21, { sig := S21, impl := I21 }), (23, { sig := S23, impl := I23 }), (24, { sig := S24, impl := I24 }), (25, { sig := S25, impl := I25 }), (30, { sig := S30, impl := I30 }), (41, { sig := S41, impl := I41 }), (43, { sig := S43, impl := I43 }), (45, { sig := S45, impl := I45 }), (53, { sig := S53, impl := I53 }), (22, { sig := S22, impl := I22 }), (42, { sig := S42, impl := I42 }), (48, { sig := S48, impl := I48 }), (55, { sig := S55, impl := I55 }), (32, { sig := S32, impl := I32 }), (37, { sig := S37, impl := I37 }), (39, { sig := S39, impl := I39 })]
theorem GH_ok : CtxOk Try.prog GH := ctxOk_cons ok66 rfl c66 (ctxOk_cons ok70 rfl c70 (ctxOk_cons ok72 rfl c72 (ctxOk_cons ok73 rfl c73 (ctxOk_cons ok74 rfl c74 (ctxOk_cons ok75 rfl c75 (ctxOk_cons ok94 rfl c94 (ctxOk_cons ok97 rfl c97 (ctxOk_cons ok13 rfl c13 (ctxOk_cons ok15 rfl c15 (ctxOk_cons ok18 rfl c18 (ctxOk_cons ok21 rfl c21 (ctxOk_cons ok23 rfl c23 (ctxOk_cons ok24 rfl c24 (ctxOk_cons ok25 rfl c25 (ctxOk_cons ok30 rfl c30 (ctxOk_cons ok41 rfl c41 (ctxOk_cons ok43 rfl c43 (ctxOk_cons ok45 rfl c45 (ctxOk_cons ok53 rfl c53 (ctxOk_cons ok22 rfl c22 (ctxOk_cons ok42 rfl c42 (ctxOk_cons ok48 rfl c48 (ctxOk_cons ok55 rfl c55 (ctxOk_cons ok32 rfl c32 (ctxOk_cons ok37 rfl c37 (ctxOk_cons ok39 rfl c39 ctxOk_nil))))))))))))))))))))))))))
end Go.Proofs.Ytcgolglcjfknpaa

/- What rime/field.SqrtRatio comes to. MADE BY PROGRAM (wip/tools/mkfn.py, EngGen.lean). -/
namespace Go.Proofs.Ytcgolglcjfknpaa
open Go Go.Eng
set_option maxRecDepth 100000
set_option linter.unusedVariables false

noncomputable def f35_raw {R : Type} (N : Nat) (x : List Int) (y : List Int) (k : List DV → Option R) : Option R :=
 bif Decidable.decide (feL (timesL (timesL (timesL (timesL (loadL x) (timesL (timesL (loadL y) (loadL y)) (loadL y))) (powL (timesL (timesL (timesL (loadL x) (timesL (timesL (loadL y) (loadL y)) (loadL y))) (timesL (timesL (loadL y) (loadL y)) (loadL y))) (loadL y)) (nats (digs 256 32 7237005577332262213973186563042994240829374041602535252466099000494570602493)))) (timesL (timesL (loadL x) (timesL (timesL (loadL y) (loadL y)) (loadL y))) (powL (timesL (timesL (timesL (loadL x) (timesL (timesL (loadL y) (loadL y)) (loadL y))) (timesL (timesL (loadL y) (loadL y)) (loadL y))) (loadL y)) (nats (digs 256 32 7237005577332262213973186563042994240829374041602535252466099000494570602493))))) (loadL y)) = feL (loadL x)) then bif okB (feL (timesL (timesL (loadL x) (timesL (timesL (loadL y) (loadL y)) (loadL y))) (powL (timesL (timesL (timesL (loadL x) (timesL (timesL (loadL y) (loadL y)) (loadL y))) (timesL (timesL (loadL y) (loadL y)) (loadL y))) (loadL y)) (nats (digs 256 32 7237005577332262213973186563042994240829374041602535252466099000494570602493))))) then k [DV.v (SV.one (At.ints IntKind.u8 32 (feN (absN (vB (feL (timesL (timesL (loadL x) (timesL (timesL (loadL y) (loadL y)) (loadL y))) (powL (timesL (timesL (timesL (loadL x) (timesL (timesL (loadL y) (loadL y)) (loadL y))) (timesL (timesL (loadL y) (loadL y)) (loadL y))) (loadL y)) (nats (digs 256 32 7237005577332262213973186563042994240829374041602535252466099000494570602493)))))))))), DV.v (SV.one (At.bool Bool.true))] else Option.none else bif Decidable.decide (feL (timesL (timesL (timesL (timesL (loadL x) (timesL (timesL (loadL y) (loadL y)) (loadL y))) (powL (timesL (timesL (timesL (loadL x) (timesL (timesL (loadL y) (loadL y)) (loadL y))) (timesL (timesL (loadL y) (loadL y)) (loadL y))) (loadL y)) (nats (digs 256 32 7237005577332262213973186563042994240829374041602535252466099000494570602493)))) (timesL (timesL (loadL x) (timesL (timesL (loadL y) (loadL y)) (loadL y))) (powL (timesL (timesL (timesL (loadL x) (timesL (timesL (loadL y) (loadL y)) (loadL y))) (timesL (timesL (loadL y) (loadL y)) (loadL y))) (loadL y)) (nats (digs 256 32 7237005577332262213973186563042994240829374041602535252466099000494570602493))))) (loadL y)) = feL (minusL (List.replicate 5 0) (loadL x))) then bif okB (feL (timesL (timesL (timesL (loadL x) (timesL (timesL (loadL y) (loadL y)) (loadL y))) (powL (timesL (timesL (timesL (loadL x) (timesL (timesL (loadL y) (loadL y)) (loadL y))) (timesL (timesL (loadL y) (loadL y)) (loadL y))) (loadL y)) (nats (digs 256 32 7237005577332262213973186563042994240829374041602535252466099000494570602493)))) (loadL (feN iN)))) then k [DV.v (SV.one (At.ints IntKind.u8 32 (feN (absN (vB (feL (timesL (timesL (timesL (loadL x) (timesL (timesL (loadL y) (loadL y)) (loadL y))) (powL (timesL (timesL (timesL (loadL x) (timesL (timesL (loadL y) (loadL y)) (loadL y))) (timesL (timesL (loadL y) (loadL y)) (loadL y))) (loadL y)) (nats (digs 256 32 7237005577332262213973186563042994240829374041602535252466099000494570602493)))) (loadL (feN iN))))))))), DV.v (SV.one (At.bool Bool.true))] else Option.none else bif Decidable.decide (feL (timesL (timesL (timesL (timesL (loadL x) (timesL (timesL (loadL y) (loadL y)) (loadL y))) (powL (timesL (timesL (timesL (loadL x) (timesL (timesL (loadL y) (loadL y)) (loadL y))) (timesL (timesL (loadL y) (loadL y)) (loadL y))) (loadL y)) (nats (digs 256 32 7237005577332262213973186563042994240829374041602535252466099000494570602493)))) (timesL (timesL (loadL x) (timesL (timesL (loadL y) (loadL y)) (loadL y))) (powL (timesL (timesL (timesL (loadL x) (timesL (timesL (loadL y) (loadL y)) (loadL y))) (timesL (timesL (loadL y) (loadL y)) (loadL y))) (loadL y)) (nats (digs 256 32 7237005577332262213973186563042994240829374041602535252466099000494570602493))))) (loadL y)) = feL (timesL (minusL (List.replicate 5 0) (loadL x)) (loadL (feN iN)))) then bif okB (feL (timesL (timesL (timesL (loadL x) (timesL (timesL (loadL y) (loadL y)) (loadL y))) (powL (timesL (timesL (timesL (loadL x) (timesL (timesL (loadL y) (loadL y)) (loadL y))) (timesL (timesL (loadL y) (loadL y)) (loadL y))) (loadL y)) (nats (digs 256 32 7237005577332262213973186563042994240829374041602535252466099000494570602493)))) (loadL (feN iN)))) then k [DV.v (SV.one (At.ints IntKind.u8 32 (feN (absN (vB (feL (timesL (timesL (timesL (loadL x) (timesL (timesL (loadL y) (loadL y)) (loadL y))) (powL (timesL (timesL (timesL (loadL x) (timesL (timesL (loadL y) (loadL y)) (loadL y))) (timesL (timesL (loadL y) (loadL y)) (loadL y))) (loadL y)) (nats (digs 256 32 7237005577332262213973186563042994240829374041602535252466099000494570602493)))) (loadL (feN iN))))))))), DV.v (SV.one (At.bool Bool.false))] else Option.none else bif okB (feL (timesL (timesL (loadL x) (timesL (timesL (loadL y) (loadL y)) (loadL y))) (powL (timesL (timesL (timesL (loadL x) (timesL (timesL (loadL y) (loadL y)) (loadL y))) (timesL (timesL (loadL y) (loadL y)) (loadL y))) (loadL y)) (nats (digs 256 32 7237005577332262213973186563042994240829374041602535252466099000494570602493))))) then k [DV.v (SV.one (At.ints IntKind.u8 32 (feN (absN (vB (feL (timesL (timesL (loadL x) (timesL (timesL (loadL y) (loadL y)) (loadL y))) (powL (timesL (timesL (timesL (loadL x) (timesL (timesL (loadL y) (loadL y)) (loadL y))) (timesL (timesL (loadL y) (loadL y)) (loadL y))) (loadL y)) (nats (digs 256 32 7237005577332262213973186563042994240829374041602535252466099000494570602493)))))))))), DV.v (SV.one (At.bool Bool.false))] else Option.none


noncomputable def E35 (N : Nat) : Env := { Θ := Th, Γ := GH, K := K35, ν := N35, fuel := 60, lp := [] }


theorem f35_contract (N : Nat) (hΓ : CtxOk Try.prog GH) : Contract Try.prog 35 { sig := S35, impl := fun _ ds k => call (E35 N) S35 77 B35 R35 ds k } :=
  call_contract (E := E35 N) thOk hΓ mixed ok35.look ok35.body ok35.n ok35.rv ok35.name rfl (by decide) (loopsOk_of (l := []) (by kernel_rfl) trivial)
theorem f35_raw_eq {R : Type} (N : Nat) (x : List Int) (y : List Int) (k : List DV → Option R) : call (E35 N) S35 77 B35 R35 [.v (.one (.ints .u8 32 x)), .v (.one (.ints .u8 32 y))] k = f35_raw N x y k := by kernel_rfl
end Go.Proofs.Ytcgolglcjfknpaa

/- field's exported functions, as numbers: SqrtRatio. -/
namespace Go.Proofs.Ytcgolglcjfknpaa
open Go Go.Eng
set_option maxRecDepth 100000

/-- the root that is tried for u / v -/
noncomputable def rtN (u v : Nat) : Nat := mulN (mulN u (mulN (mulN v v) v)) (pw (mulN (mulN (mulN u (mulN (mulN v v) v)) (mulN (mulN v v) v)) v) 7237005577332262213973186563042994240829374041602535252466099000494570602493)
/-- its square times v -/
noncomputable def chN (u v : Nat) : Nat := mulN (mulN (rtN u v) (rtN u v)) v
noncomputable def ratR (u v : Nat) : Nat := bif decide (chN u v = u) then absN (rtN u v) else bif decide (chN u v = subN 0 u) then absN (mulN (rtN u v) iN) else bif decide (chN u v = mulN (subN 0 u) iN) then absN (mulN (rtN u v) iN) else absN (rtN u v)
noncomputable def ratN : Nat → Nat → Nat := (stk ratR).1
theorem ratN_def (u v : Nat) : ratN u v = ratR u v := congrFun (congrFun (stk ratR).2 u) v
noncomputable def ratB : Nat → Nat → Bool := (stk fun u v => decide (chN u v = u) || decide (chN u v = subN 0 u)).1
theorem ratB_def (u v : Nat) : ratB u v = (decide (chN u v = u) || decide (chN u v = subN 0 u)) := congrFun (congrFun (stk fun u v => decide (chN u v = u) || decide (chN u v = subN 0 u)).2 u) v
theorem dec_feN {a b : Nat} (ha : a < p25519) (hb : b < p25519) : decide (feN a = feN b) = decide (a = b) := decide_eq_decide.mpr (feN_eq ha hb)
theorem zero_el : El (List.replicate 5 0) 0 := ⟨0, 0, 0, 0, 0, rfl, ⟨by decide, by decide, by decide, by decide, by decide⟩, by decide⟩
theorem bif_lt (c : Bool) {a b : Nat} (ha : a < p25519) (hb : b < p25519) : (bif c then a else b) < p25519 := by
  cases c
  · exact hb
  · exact ha
theorem ratN_lt {u : Nat} (v : Nat) : ratN u v < p25519 := by
  rw [ratN_def]
  unfold ratR
  have h1 := absN_lt (v := rtN u v) (mulN_lt _ _)
  have h2 := absN_lt (v := mulN (rtN u v) iN) (mulN_lt _ _)
  exact bif_lt _ h1 (bif_lt _ h2 (bif_lt _ h2 h1))
theorem sel4 {R : Type} (c1 c2 c3 : Bool) (a b : Nat) (k : List DV → Option R) :
    (bif c1 then bif true then k [.v (.one (.ints .u8 32 (feN a))), .v (.one (.bool true))] else none else bif c2 then bif true then k [.v (.one (.ints .u8 32 (feN b))), .v (.one (.bool true))] else none else bif c3 then bif true then k [.v (.one (.ints .u8 32 (feN b))), .v (.one (.bool false))] else none else bif true then k [.v (.one (.ints .u8 32 (feN a))), .v (.one (.bool false))] else none) =
      k [.v (.one (.ints .u8 32 (feN (bif c1 then a else bif c2 then b else bif c3 then b else a)))), .v (.one (.bool (c1 || c2)))] := by
  cases c1 <;> cases c2 <;> cases c3 <;> rfl

theorem f35_num {R : Type} (x : List Int) (y : List Int) (hx : (okB x) = true) (hy : (okB y) = true) (k : List DV → Option R) : f35_raw 0 x y k = k [.v (.one (.ints .u8 32 (feN (ratN (vB x) (vB y))))), .v (.one (.bool (ratB (vB x) (vB y))))] := by
  have hu := load_vB hx
  have hv := load_vB hy
  have h3 := times_N (times_N hv hv) hv
  have hr : El _ (rtN (vB x) (vB y)) := times_N (times_N hu h3) (pow_lit (e := 7237005577332262213973186563042994240829374041602535252466099000494570602493) (times_N (times_N (times_N hu h3) h3) hv) (by decide))
  have hc : El _ (chN (vB x) (vB y)) := times_N (times_N hr hr) hv
  have hn : El _ (subN 0 (vB x)) := minus_N zero_el hu
  have hi : El (loadL (feN iN)) iN := by
    have := load_vB (okB_feN iN)
    rwa [vB_feN (by decide)] at this
  have hri : El _ (mulN (rtN (vB x) (vB y)) iN) := times_N hr hi
  have hni : El _ (mulN (subN 0 (vB x)) iN) := times_N hn hi
  rw [ratN_def, ratB_def]
  unfold f35_raw ratR
  rw [fe_num hc, fe_num hr, fe_num hu, fe_num hn, fe_num hri, fe_num hni]
  rw [dec_feN hc.lt hu.lt, dec_feN hc.lt hn.lt, dec_feN hc.lt hni.lt, okB_feN, okB_feN, vB_feN hr.lt, vB_feN hri.lt]
  exact sel4 _ _ _ _ _ k
noncomputable def I35 : (R : Type) → List DV → (List DV → Option R) → Option R := fun _ ds k => match ds with
  | [.v (.one (.ints .u8 32 x)), .v (.one (.ints .u8 32 y))] => bif okB x && okB y then k [.v (.one (.ints .u8 32 (feN (ratN (vB x) (vB y))))), .v (.one (.bool (ratB (vB x) (vB y))))] else none
  | _ => none
theorem c35 : Contract Try.prog 35 { sig := S35, impl := I35 } := by
  refine Contract.refine fun R ds k r h => ⟨_, f35_contract 0 GH_ok, ?_⟩
  unfold I35 at h
  split at h
  · rename_i x y
    rcases hc : okB x && okB y with _ | _
    · rw [hc] at h; cases h
    · rw [hc, cond_true] at h
      simp only [Bool.and_eq_true] at hc
      rw [f35_raw_eq, f35_num x y hc.1 hc.2]; exact h
  · cases h

noncomputable def GI : Ctx := [(66, { sig := S66, impl := I66 }), (70, { sig := S70, impl := I70 }), (72, { sig := S72, impl := I72 }), (73, { sig := S73, impl := I73 }), (74, { sig := S74, impl := I74 }), (75, { sig := S75, impl := I75 }), (94, { sig := S94, impl := I94 }), (97, { sig := S97, impl := I97 }), (13, { sig := S13, impl := I13 }), (15, { sig := S15, impl := I15 }), (18, { sig := S18, impl := I18 }), (21, { sig := S21, impl := I21 }), (23, { sig := S23, impl := I23 }), (24, { sig := S24, impl := I24 }), (25, { sig := S25, impl := I25 }), (30, { sig := S30, impl := I30 }), (41, { sig := S41, impl := I41 }), (43, { sig := S43, impl := I43 }), (45, { sig := S45, impl := I45 }), (53, { sig := S53, impl := I53 }), (22, { sig := S22, impl := I22 }), (42, { sig := S42, impl := I42 }), (48, { sig := S48, impl := I48 }), (55, { sig := S55, impl := I55 }), (32, { sig := S32, impl := I32 }), (37, { sig := S37, impl := I37 }), (39, { sig := S39, impl := I39 }), (35, { sig := S35, impl := I35 })]
theorem GI_ok : CtxOk Try.prog GI := ctxOk_cons ok66 rfl c66 (ctxOk_cons ok70 rfl c70 (ctxOk_cons ok72 rfl c72 (ctxOk_cons ok73 rfl c73 (ctxOk_cons ok74 rfl c74 (ctxOk_cons ok75 rfl c75 (ctxOk_cons ok94 rfl c94 (ctxOk_cons ok97 rfl c97 (ctxOk_cons ok13 rfl c13 (ctxOk_cons ok15 rfl c15 (ctxOk_cons ok18 rfl c18 (ctxOk_cons ok21 rfl c21 (ctxOk_cons ok23 rfl c23 (ctxOk_cons ok24 rfl c24 (ctxOk_cons ok25 rfl c25 (ctxOk_cons ok30 rfl c30 (ctxOk_cons ok41 rfl c41 (ctxOk_cons ok43 rfl c43 (ctxOk_cons ok45 rfl c45 (ctxOk_cons ok53 rfl c53 (ctxOk_cons ok22 rfl c22 (ctxOk_cons ok42 rfl c42 (ctxOk_cons ok48 rfl c48 (ctxOk_cons ok55 rfl c55 (ctxOk_cons ok32 rfl c32 (ctxOk_cons ok37 rfl c37 (ctxOk_cons ok39 rfl c39 (ctxOk_cons ok35 rfl c35 ctxOk_nil)))))))))))))))))))))))))))
end Go.Proofs.Ytcgolglcjfknpaa

/- What rime/rimelaw01.alive comes to. MADE BY PROGRAM (wip/tools/mkfn.py, EngGen.lean). -/
namespace Go.Proofs.Ytcgolglcjfknpaa
open Go Go.Eng
set_option maxRecDepth 100000
set_option linter.unusedVariables false

noncomputable def f17_raw {R : Type} (N : Nat)  (k : List DV → Option R) : Option R :=
 bif okB (feN (Int.toNat 4)) && okB (feN (Int.toNat 1)) then
 let v0 : List Int := (List.replicate 32 0).set 0 2;
 let v1 : List Int := (List.replicate 32 0).set 0 3;
 let v2 : List Int := (List.replicate 32 0).set 0 6;
 bif Decidable.decide (feN (mulN (vB v0) (vB v1)) = v2) then
 let v3 : Bool := bif Bool.true then Decidable.decide (feN (ratN (vB (feN (Int.toNat 4))) (vB (feN (Int.toNat 1)))) = v0) else Bool.false;
 bif v3 then
 let v4 : Bool := bif Bool.true then ratB (vB (feN (Int.toNat 4))) (vB (feN (Int.toNat 1))) else Bool.false;
 bif v4 then
 let v5 : Bool := bif Bool.true then legI (vB v0) == -1 else Bool.false;
 bif v5 then
 let v6 : List Int := (List.replicate 32 0).set 0 1;
 let v7 : Bool := bif Bool.true then (feN (subN 0 (vB v6))).getD (Int.toNat 0) 0 == 236 else Bool.false;
 k [DV.v (SV.one (At.bool v7))]
 else k [DV.v (SV.one (At.bool Bool.false))]
 else k [DV.v (SV.one (At.bool Bool.false))]
 else k [DV.v (SV.one (At.bool Bool.false))]
 else k [DV.v (SV.one (At.bool Bool.false))]
else Option.none


noncomputable def E17 (N : Nat) : Env := { Θ := Th, Γ := GI, K := K17, ν := N17, fuel := 60, lp := [] }


theorem f17_contract (N : Nat) (hΓ : CtxOk Try.prog GI) : Contract Try.prog 17 { sig := S17, impl := fun _ ds k => call (E17 N) S17 33 B17 R17 ds k } :=
  call_contract (E := E17 N) thOk hΓ mixed ok17.look ok17.body ok17.n ok17.rv ok17.name rfl (by decide) (loopsOk_of (l := []) (by kernel_rfl) trivial)
theorem f17_raw_eq {R : Type} (N : Nat)  (k : List DV → Option R) : call (E17 N) S17 33 B17 R17 [] k = f17_raw N  k := by kernel_rfl
end Go.Proofs.Ytcgolglcjfknpaa

/- the small example that each law begins with. -/
namespace Go.Proofs.Ytcgolglcjfknpaa
open Go Go.Eng
set_option maxRecDepth 100000

theorem lit1 : (List.replicate 32 (0 : Int)).set 0 1 = feN 1 := by rw [feN_def]; decide
theorem lit2 : (List.replicate 32 (0 : Int)).set 0 2 = feN 2 := by rw [feN_def]; decide
theorem lit3 : (List.replicate 32 (0 : Int)).set 0 3 = feN 3 := by rw [feN_def]; decide
theorem lit6 : (List.replicate 32 (0 : Int)).set 0 6 = feN 6 := by rw [feN_def]; decide
theorem rt41 : rtN 4 1 = 39362322753415011913614158609977084030892133031847780325488042146247659569504 := by unfold rtN; simp only [mulN_def, pw_pm]; decide +kernel
theorem ch41 : chN 4 1 = p25519 - 4 := by unfold chN; rw [rt41]; simp only [mulN_def]; decide
theorem sub04 : subN 0 4 = p25519 - 4 := by rw [subN_def]; decide
theorem rat41 : ratN 4 1 = 2 := by
  rw [ratN_def]; unfold ratR
  rw [ch41, sub04, rt41, decide_eq_false (show ¬ p25519 - 4 = 4 by decide), cond_false, decide_eq_true rfl, cond_true, absN_def, mulN_def, subN_def]
  decide
theorem ratb41 : ratB 4 1 = true := by rw [ratB_def, ch41, sub04, decide_eq_true (rfl : p25519 - 4 = p25519 - 4), Bool.or_true]
theorem leg2 : legI 2 = -1 := by
  rw [legI_def]; unfold legR; rw [pw_pm]; decide +kernel
theorem neg1 : (feN (subN 0 1)).getD (Int.toNat 0) 0 = 236 := by rw [feN_def, subN_def]; decide

theorem f17_num {R : Type}   (k : List DV → Option R) : f17_raw 0  k = k [.v (.one (.bool true))] := by
  unfold f17_raw
  dsimp only
  rw [lit1, lit2, lit3, lit6]
  simp only [okB_feN, cond_true, Bool.and_self]
  rw [vB_feN (v := 2) (by decide), vB_feN (v := 3) (by decide), vB_feN (v := Int.toNat 4) (by decide), vB_feN (v := Int.toNat 1) (by decide), vB_feN (v := 1) (by decide)]
  rw [show mulN 2 3 = 6 by rw [mulN_def]; decide, show ratN (Int.toNat 4) (Int.toNat 1) = 2 from rat41, show ratB (Int.toNat 4) (Int.toNat 1) = true from ratb41, leg2, neg1]
  rw [decide_eq_true (rfl : feN 6 = feN 6), decide_eq_true (rfl : feN 2 = feN 2)]
  rfl
noncomputable def I17 : (R : Type) → List DV → (List DV → Option R) → Option R := fun _ ds k => match ds with
  | [] => k [.v (.one (.bool true))]
  | _ => none
theorem c17 : Contract Try.prog 17 { sig := S17, impl := I17 } := by
  refine Contract.refine fun R ds k r h => ⟨_, f17_contract 0 GI_ok, ?_⟩
  unfold I17 at h
  split at h
  · rw [f17_raw_eq, f17_num]; exact h
  · cases h

noncomputable def GJ : Ctx := [(17, { sig := S17, impl := I17 }), (66, { sig := S66, impl := I66 }), (70, { sig := S70, impl := I70 }), (72, { sig := S72, impl := I72 }), (73, { sig := S73, impl := I73 }), (74, { sig := S74, impl := I74 }), (75, { sig := S75, impl := I75 }), (94, { sig := S94, impl := I94 }), (97, { sig := S97, impl := I97 }), (13, { sig := S13, impl := I13 }), (15, { sig := S15, impl := I15 }), (18, { sig := S18, impl := I18 }), (21, { sig := S21, impl := I21 }), (23, { sig := S23, impl := I23 }), (24, { sig := S24, impl := I24 }), (25, { sig := S25, impl := I25 }), (30, { sig := S30, impl := I30 }), (41, { sig := S41, impl := I41 }), (43, { sig := S43, impl := I43 }), (45, { sig := S45, impl := I45 }), (53, { sig := S53, impl := I53 }), (22, { sig := S22, impl := I22 }), (42, { sig := S42, impl := I42 }), (48, { sig := S48, impl := I48 }), (55, { sig := S55, impl := I55 }), (32, { sig := S32, impl := I32 }), (37, { sig := S37, impl := I37 }), (39, { sig := S39, impl := I39 }), (35, { sig := S35, impl := I35 })]
theorem GJ_ok : CtxOk Try.prog GJ := ctxOk_cons ok17 rfl c17 (ctxOk_cons ok66 rfl c66 (ctxOk_cons ok70 rfl c70 (ctxOk_cons ok72 rfl c72 (ctxOk_cons ok73 rfl c73 (ctxOk_cons ok74 rfl c74 (ctxOk_cons ok75 rfl c75 (ctxOk_cons ok94 rfl c94 (ctxOk_cons ok97 rfl c97 (ctxOk_cons ok13 rfl c13 (ctxOk_cons ok15 rfl c15 (ctxOk_cons ok18 rfl c18 (ctxOk_cons ok21 rfl c21 (ctxOk_cons ok23 rfl c23 (ctxOk_cons ok24 rfl c24 (ctxOk_cons ok25 rfl c25 (ctxOk_cons ok30 rfl c30 (ctxOk_cons ok41 rfl c41 (ctxOk_cons ok43 rfl c43 (ctxOk_cons ok45 rfl c45 (ctxOk_cons ok53 rfl c53 (ctxOk_cons ok22 rfl c22 (ctxOk_cons ok42 rfl c42 (ctxOk_cons ok48 rfl c48 (ctxOk_cons ok55 rfl c55 (ctxOk_cons ok32 rfl c32 (ctxOk_cons ok37 rfl c37 (ctxOk_cons ok39 rfl c39 (ctxOk_cons ok35 rfl c35 ctxOk_nil))))))))))))))))))))))))))))
end Go.Proofs.Ytcgolglcjfknpaa

/- The starts of the laws. -/
namespace Go.Proofs.Ytcgolglcjfknpaa
open Go Go.Eng
/-- no function, but a word to the engine: an 'and' is followed where it says yes -/
def noFI : FI := { sig := { ps := [], rs := [] }, impl := fun _ _ _ => none }
theorem ctxOk_prune {Γ : Ctx} (h : CtxOk Try.prog Γ) : CtxOk Try.prog ((999999, noFI) :: Γ) := by
  intro g fi hg
  unfold findF at hg
  split at hg
  · injection hg with hg; subst hg
    refine ⟨fun R ds k r hr => ?_, fun p hp => ?_⟩
    · cases (show (none : Option R) = some r from hr)
    · cases (show p ∈ ([] : List PM) from hp)
  · exact h g fi hg
noncomputable def GK : Ctx := (999999, noFI) :: GJ
theorem GK_ok : CtxOk Try.prog GK := ctxOk_prune GJ_ok
def start3 (n : Nat) (x y z : List Int) : AS :=
  { n := n, lo := 0, tmps := [(0, .s (.one (.ints .u8 32 x))), (1, .s (.one (.ints .u8 32 y))), (2, .s (.one (.ints .u8 32 z)))], items := [] }
def start2 (n : Nat) (x y : List Int) : AS :=
  { n := n, lo := 0, tmps := [(0, .s (.one (.ints .u8 32 x))), (1, .s (.one (.ints .u8 32 y)))], items := [] }
end Go.Proofs.Ytcgolglcjfknpaa

/- What the rows of the field's laws need. -/
namespace Go.Proofs.Ytcgolglcjfknpaa
open Go Go.Eng Go.ChangeShapes Go.WideShapes Go.RowKit
set_option maxRecDepth 100000
theorem own0 : ownKnob Try.prog.godebug = none := by kernel_rfl
theorem laidOut : laidOutB Try.prog = true := by kernel_rfl
theorem wf_u8 {y : Int} (h : (Lit.int .u8 y).wf = true) : 0 ≤ y ∧ y < 256 := by
  have := bounds_u8 h; omega
theorem okB_row {x : List Int} (hl : x.length = 32) (hw : ∀ y ∈ x, (Lit.int .u8 y).wf = true) : okB x = true := by
  unfold okB
  rw [decide_eq_true hl, Bool.true_and, List.all_eq_true]
  intro b hb
  have := wf_u8 (hw b hb)
  rw [Bool.and_eq_true]
  exact ⟨decide_eq_true this.1, decide_eq_true this.2⟩
end Go.Proofs.Ytcgolglcjfknpaa

/- What the rows of the field's laws need, further. -/
namespace Go.Proofs.Ytcgolglcjfknpaa
open Go Go.Eng Go.ChangeShapes Go.WideShapes Go.RowKit
set_option maxRecDepth 100000
theorem okW_row {x : List Int} (hl : x.length = 5) (hw : ∀ y ∈ x, (Lit.int .u64 y).wf = true) : okW x = true := by
  unfold okW
  rw [decide_eq_true hl, Bool.true_and, List.all_eq_true]
  intro b hb
  have := bounds_u64 (hw b hb)
  rw [Bool.and_eq_true]
  exact ⟨decide_eq_true (by omega), decide_eq_true (by omega)⟩
theorem okE_row {x : List Int} {len : Nat} (hm : len < 9223372036854775808) (hl : x.length = len * 1) (hw : ∀ y ∈ x, (Lit.int .u8 y).wf = true) : okE x = true := by
  unfold okE
  rw [decide_eq_true (by omega), Bool.true_and, List.all_eq_true]
  intro b hb
  have := wf_u8 (hw b hb)
  rw [Bool.and_eq_true]
  exact ⟨decide_eq_true this.1, decide_eq_true this.2⟩
theorem elB (H : Type) (enc : TypeId × Value → H) : IntEl H enc Try.prog 5 .u8 1 := intEl_int Try.underlying5 (by kernel_rfl)
end Go.Proofs.Ytcgolglcjfknpaa

/- What rime/field.Reduce comes to. MADE BY PROGRAM (wip/tools/mkfn.py, EngGen.lean). -/
namespace Go.Proofs.Ytcgolglcjfknpaa
open Go Go.Eng
set_option maxRecDepth 100000
set_option linter.unusedVariables false

def f63_0_sh : Shp := { n := 32, lo := 1, slots := [(0, .one (.fix (At.own 0))), (2, .one (.fix (At.ptr 2 0 Off.z 32))), (3, .one (.fix (At.ptr 3 0 Off.z 5))), (4, .one (.fix (At.ptr 4 0 Off.z 5))), (5, .one (.int IntKind.i64))], items := [(0, .view IntKind.u8 1), (2, .obj [.ints IntKind.u8 32]), (3, .obj [.ints IntKind.u64 5]), (4, .obj [.ints IntKind.u64 5])] }
def f63_0_ex1 : Shp := { n := 32, lo := 1, slots := [(15, .one (.bool)), (0, .one (.fix (At.own 0))), (2, .one (.fix (At.ptr 2 0 Off.z 32))), (3, .one (.fix (At.ptr 3 0 Off.z 5))), (4, .one (.fix (At.ptr 4 0 Off.z 5))), (5, .one (.int IntKind.i64))], items := [(0, .view IntKind.u8 1), (2, .obj [.ints IntKind.u8 32]), (3, .obj [.ints IntKind.u64 5]), (4, .obj [.ints IntKind.u64 5])] }
noncomputable def f63_0_st {R : Type} (N : Nat) (self : Int → List Int → List Int → List Int → List Int → Option R) (k1 : Bool → Int → List Int → List Int → List Int → List Int → Option R) (x1 : Int) (x2 : List Int) (x3 : List Int) (x4 : List Int) (x5 : List Int) : Option R :=
 bif Decidable.decide (x1 > 0) then
 let v0 : Int := IntKind.i64.wrap (x1 - 32);
 bif loOk (Option.some v0) (hiInt Option.none (rowLen 1 x2)) then
 let v1 : List Int := Go.Eng.sub x2 (plusO Off.z 1 (Option.some v0)) (mulE (Go.Eng.subN (hiNat Option.none (rowLen 1 x2)) (Option.some v0)) 1);
 let v2 : Nat := Min.min (rowLen 1 v1) (Go.Eng.subN (hiNat Option.none 32) Option.none);
 let v3 : List Int := splice (List.replicate 32 0) (plusO Off.z 1 Option.none) (List.take (mulE v2 1) v1);
 self v0 x2 x3 (plusL (timesL x4 x5) (loadL v3)) x5
 else Option.none
else k1 (Decidable.decide (x1 > 0)) x1 x2 x3 x4 x5
noncomputable def f63_0_lp {R : Type} (N : Nat) (k1 : Bool → Int → List Int → List Int → List Int → List Int → Option R) : Nat → Int → List Int → List Int → List Int → List Int → Option R
 | 0, _, _, _, _, _ => none
 | n + 1, x1, x2, x3, x4, x5 => f63_0_st N (f63_0_lp N k1 n) k1 x1 x2 x3 x4 x5
noncomputable def f63_0_F (N : Nat) : (R : Type) → List Leaf → (X → AS → Option R) → Option R := fun _ ls K => match ls with
 | [.i x1, .l x2, .l x3, .l x4, .l x5] => f63_0_lp N (fun y1 y2 y3 y4 y5 y6 => K (X.normal) (fill f63_0_ex1 [.b y1, .i y2, .l y3, .l y4, .l y5, .l y6])) N x1 x2 x3 x4 x5
 | _ => none
noncomputable def f63_raw {R : Type} (N : Nat) (e : List Int) (k : List DV → Option R) : Option R :=
 let v0 : Int := IntKind.i64.wrap (nI (rowLen 1 e) + 31);
let v1 : Int := IntKind.i64.wrap (v0.tdiv 32);
let v2 : Int := IntKind.i64.wrap (v1 * 32);
let v3 : List Int := (List.replicate 5 0).set 0 38;
f63_0_lp N (fun w4_1 w4_2 w4_3 w4_4 w4_5 w4_6 => k [DV.v (SV.one (At.ints IntKind.u8 32 (feL w4_5)))]) N v2 e (List.replicate 32 0) (List.replicate 5 0) v3


noncomputable def E63 (N : Nat) : Env := { Θ := Th, Γ := GJ, K := K63, ν := N63, fuel := 0, lp := [(0, mkL N63_0 f63_0_sh (f63_0_F N))] }

theorem f63_0_st_eq {R : Type} (N : Nat) (K : X → AS → Option R) (n : Nat) (x1 : Int) (x2 : List Int) (x3 : List Int) (x4 : List Int) (x5 : List Int) : roundsOf (E63 N) N63_0 0 B63_0 K (n + 1) (fill f63_0_sh [.i x1, .l x2, .l x3, .l x4, .l x5]) = f63_0_st N (fun x1 x2 x3 x4 x5 => roundsOf (E63 N) N63_0 0 B63_0 K n (fill f63_0_sh [.i x1, .l x2, .l x3, .l x4, .l x5])) (fun y1 y2 y3 y4 y5 y6 => K (X.normal) (fill f63_0_ex1 [.b y1, .i y2, .l y3, .l y4, .l y5, .l y6])) x1 x2 x3 x4 x5 := by kernel_rfl
theorem f63_0_lp_eq {R : Type} (N : Nat) (K : X → AS → Option R) : ∀ (n : Nat) (x1 : Int) (x2 : List Int) (x3 : List Int) (x4 : List Int) (x5 : List Int), roundsOf (E63 N) N63_0 0 B63_0 K n (fill f63_0_sh [.i x1, .l x2, .l x3, .l x4, .l x5]) = f63_0_lp N (fun y1 y2 y3 y4 y5 y6 => K (X.normal) (fill f63_0_ex1 [.b y1, .i y2, .l y3, .l y4, .l y5, .l y6])) n x1 x2 x3 x4 x5
  | 0, _, _, _, _, _ => rfl
  | n + 1, x1, x2, x3, x4, x5 => by
    rw [f63_0_st_eq, f63_0_lp, show (fun x1 x2 x3 x4 x5 => roundsOf (E63 N) N63_0 0 B63_0 K n (fill f63_0_sh [.i x1, .l x2, .l x3, .l x4, .l x5])) = f63_0_lp N (fun y1 y2 y3 y4 y5 y6 => K (X.normal) (fill f63_0_ex1 [.b y1, .i y2, .l y3, .l y4, .l y5, .l y6])) n from by funext x1 x2 x3 x4 x5; exact f63_0_lp_eq N K n x1 x2 x3 x4 x5]
theorem f63_0_ok (N : Nat) (hlp : LoopsOk Try.prog (E63 N).lp B63_0) (hΓ : CtxOk Try.prog (E63 N).Γ) : LoopOk Try.prog (mkL N63_0 f63_0_sh (f63_0_F N)) 0 B63_0 := by
  refine loopOk_of (E := E63 N) thOk hΓ mixed hlp ?_
  intro R ls K r h
  unfold f63_0_F at h
  split at h
  · exact ⟨N, by rw [f63_0_lp_eq]; exact h⟩
  · cases h

theorem lok63_0 (N : Nat) (hΓ : CtxOk Try.prog GJ) : LoopOk Try.prog (mkL N63_0 f63_0_sh (f63_0_F N)) 0 B63_0 := f63_0_ok N (loopsOk_of (l := []) (by kernel_rfl) trivial) hΓ
theorem f63_contract (N : Nat) (hΓ : CtxOk Try.prog GJ) : Contract Try.prog 63 { sig := S63, impl := fun _ ds k => call (E63 N) S63 32 B63 R63 ds k } :=
  call_contract (E := E63 N) thOk hΓ mixed ok63.look ok63.body ok63.n ok63.rv ok63.name rfl (by decide) (loopsOk_of (l := [(0, B63_0)]) (by kernel_rfl) (allOk_cons (L := mkL N63_0 f63_0_sh (f63_0_F N)) rfl (lok63_0 N hΓ) trivial))
theorem f63_raw_eq {R : Type} (N : Nat) (e : List Int) (k : List DV → Option R) : call (E63 N) S63 32 B63 R63 [.lst .u8 1 e] k = f63_raw N e k := by kernel_rfl
end Go.Proofs.Ytcgolglcjfknpaa

/- What rime/field.Decode comes to. MADE BY PROGRAM (wip/tools/mkfn.py, EngGen.lean). -/
namespace Go.Proofs.Ytcgolglcjfknpaa
open Go Go.Eng
set_option maxRecDepth 100000
set_option linter.unusedVariables false

noncomputable def f64_raw {R : Type} (N : Nat) (e : List Int) (k : List DV → Option R) : Option R :=
 bif nI (rowLen 1 e) != 32 then k [DV.v (SV.one (At.ints IntKind.u8 32 (List.replicate 32 0))), DV.v (SV.one (At.int IntKind.i64 3))] else bif Nat.ble 1 32 && Nat.ble 32 (rowLen 1 e) then bif okB (List.take 32 (List.drop 0 e)) then bif Decidable.decide (numB (List.take 32 (List.drop 0 e)) < p25519) then k [DV.v (SV.one (At.ints IntKind.u8 32 (List.take 32 (List.drop 0 e)))), DV.v (SV.one (At.int IntKind.i64 0))] else k [DV.v (SV.one (At.ints IntKind.u8 32 (List.replicate 32 0))), DV.v (SV.one (At.int IntKind.i64 11))] else Option.none else Option.none


noncomputable def E64 (N : Nat) : Env := { Θ := Th, Γ := GJ, K := K64, ν := N64, fuel := 0, lp := [] }


theorem f64_contract (N : Nat) (hΓ : CtxOk Try.prog GJ) : Contract Try.prog 64 { sig := S64, impl := fun _ ds k => call (E64 N) S64 16 B64 R64 ds k } :=
  call_contract (E := E64 N) thOk hΓ mixed ok64.look ok64.body ok64.n ok64.rv ok64.name rfl (by decide) (loopsOk_of (l := []) (by kernel_rfl) trivial)
theorem f64_raw_eq {R : Type} (N : Nat) (e : List Int) (k : List DV → Option R) : call (E64 N) S64 16 B64 R64 [.lst .u8 1 e] k = f64_raw N e k := by kernel_rfl
end Go.Proofs.Ytcgolglcjfknpaa

/- What rime/rimelaw01.num comes to. MADE BY PROGRAM (wip/tools/mkfn.py, EngGen.lean). -/
namespace Go.Proofs.Ytcgolglcjfknpaa
open Go Go.Eng
set_option maxRecDepth 100000
set_option linter.unusedVariables false

noncomputable def f65_raw {R : Type} (N : Nat) (x : Int) (k : List DV → Option R) : Option R :=
 k [DV.v (SV.one (At.int IntKind.i64 x))]


noncomputable def E65 (N : Nat) : Env := { Θ := Th, Γ := GJ, K := K65, ν := N65, fuel := 0, lp := [] }


theorem f65_contract (N : Nat) (hΓ : CtxOk Try.prog GJ) : Contract Try.prog 65 { sig := S65, impl := fun _ ds k => call (E65 N) S65 4 B65 R65 ds k } :=
  call_contract (E := E65 N) thOk hΓ mixed ok65.look ok65.body ok65.n ok65.rv ok65.name rfl (by decide) (loopsOk_of (l := []) (by kernel_rfl) trivial)
theorem f65_raw_eq {R : Type} (N : Nat) (x : Int) (k : List DV → Option R) : call (E65 N) S65 4 B65 R65 [.v (.one (.int .i64 x))] k = f65_raw N x k := by kernel_rfl
end Go.Proofs.Ytcgolglcjfknpaa

/- The field's laws, as numbers. -/
namespace Go.Proofs.Ytcgolglcjfknpaa
open Go Go.Eng
set_option maxRecDepth 100000

theorem addN_comm (a b : Nat) : addN a b = addN b a := by rw [addN_def, addN_def, Nat.add_comm]
theorem mulN_comm (a b : Nat) : mulN a b = mulN b a := by rw [mulN_def, mulN_def, Nat.mul_comm]
theorem addN_assoc (a b c : Nat) : addN (addN a b) c = addN a (addN b c) := by
  simp only [addN_def, Nat.mod_add_mod, Nat.add_mod_mod, Nat.add_assoc]
theorem mulN_assoc (a b c : Nat) : mulN (mulN a b) c = mulN a (mulN b c) := by
  simp only [mulN_def, Nat.mod_mul_mod, Nat.mul_mod_mod, Nat.mul_assoc]
theorem mulN_add (a b c : Nat) : mulN a (addN b c) = addN (mulN a b) (mulN a c) := by
  simp only [mulN_def, addN_def, Nat.mul_mod_mod, Nat.mod_add_mod, Nat.add_mod_mod, Nat.mul_add]
theorem subN_addN {a b : Nat} (hb : b < p25519) : subN (addN a b) b = addN a 0 := by
  rw [subN_def, addN_def, addN_def]; unfold p25519 at *; omega
theorem addN_neg {a : Nat} (ha : a < p25519) : addN a (subN 0 a) = 0 := by
  rw [subN_def, addN_def]; unfold p25519 at *; omega
theorem mulN_one {a : Nat} (ha : a < p25519) : mulN a 1 = a := by
  rw [mulN_def, Nat.mul_one, Nat.mod_eq_of_lt ha]
theorem pw_zero : pw 0 pm2 = 0 := by rw [pw_pm]; decide +kernel
theorem mulN_inv {a : Nat} (ha : a < p25519) (h0 : a ≠ 0) : mulN a (pw a pm2) = 1 := by
  rw [mulN_def, pw_eq, Nat.mul_mod_mod, Nat.mul_comm, ← Nat.pow_succ]
  exact fermat prm_p (fun hd => h0 (Nat.eq_zero_of_dvd_of_lt hd ha))
end Go.Proofs.Ytcgolglcjfknpaa

/- Squares modulo a prime: Euler, and roots where the prime is 5 modulo 8. Plain numbers, no program. -/
namespace Go.Eng

theorem sq_aux {p x y : Nat} (hp : Prm p) (hx : x < p) (hle : y ≤ x) (h : x * x % p = y * y % p) : x = y ∨ x + y = p := by
  have hd : p ∣ x * x - y * y := dvd_of_mods h.symm
  rw [Nat.mul_self_sub_mul_self_eq] at hd
  rcases hp.dvd_mul hd with h1 | h1
  · obtain ⟨k, hk⟩ := h1
    match k, hk with
    | 0, hk => left; omega
    | 1, hk => right; omega
    | k + 2, hk =>
      have : p * 2 ≤ p * (k + 2) := Nat.mul_le_mul_left p (by omega)
      omega
  · left
    have := Nat.eq_zero_of_dvd_of_lt h1 (by omega)
    omega

theorem sq_eq {p x y : Nat} (hp : Prm p) (hx : x < p) (hy : y < p) (h : x * x % p = y * y % p) : x = y ∨ x + y = p := by
  rcases Nat.le_total y x with hle | hle
  · exact sq_aux hp hx hle h
  · rcases sq_aux hp hy hle h.symm with h | h
    · exact .inl h.symm
    · right; omega

theorem sq_one {p x : Nat} (hp : Prm p) (hx : x < p) (h : x * x % p = 1) : x = 1 ∨ x = p - 1 := by
  have h2 := hp.1
  rcases sq_eq hp hx (show 1 < p by omega) (by rw [h, Nat.mul_one, Nat.mod_eq_of_lt (by omega)]) with h | h
  · exact .inl h
  · right; omega

theorem pow_not_dvd {p a : Nat} (hp : Prm p) (ha : ¬ p ∣ a) : ∀ n, ¬ p ∣ a ^ n
  | 0 => fun h => by
    rw [Nat.pow_zero] at h
    have h1 := Nat.le_of_dvd (by decide) h
    have h2 := hp.1
    omega
  | n + 1 => fun h => by
    rw [Nat.pow_succ] at h
    rcases hp.dvd_mul h with h | h
    · exact pow_not_dvd hp ha n h
    · exact ha h

theorem mod_pos {p a : Nat} (ha : ¬ p ∣ a) : a % p ≠ 0 := fun h => ha (Nat.dvd_of_mod_eq_zero h)

/-- Euler -/
theorem euler {p a h : Nat} (hp : Prm p) (hh : p = 2 * h + 1) (ha : ¬ p ∣ a) : a ^ h % p = 1 ∨ a ^ h % p = p - 1 := by
  have h2 := hp.1
  refine sq_one hp (Nat.mod_lt _ (by omega)) ?_
  rw [← Nat.mul_mod, ← Nat.pow_add, show h + h = p - 1 by omega]
  exact fermat hp ha

theorem neg_sq {p x : Nat} (hx : x ≤ p) : (p - x) * (p - x) % p = x * x % p := by
  obtain ⟨d, rfl⟩ : ∃ d, p = x + d := ⟨p - x, by omega⟩
  rw [Nat.add_sub_cancel_left]
  rcases Nat.le_total x d with h | h
  · refine (mods_of_dvd (Nat.mul_self_le_mul_self h) ?_).symm
    rw [Nat.mul_self_sub_mul_self_eq, Nat.add_comm]; exact Nat.dvd_mul_right _ _
  · refine mods_of_dvd (Nat.mul_self_le_mul_self h) ?_
    rw [Nat.mul_self_sub_mul_self_eq]; exact Nat.dvd_mul_right _ _

/-- the root that is tried: its square times v is u times a power -/
theorem root_sq (u v e : Nat) : (u * (v * v * v)) * ((u * (v * v * v)) * (v * v * v) * v) ^ e * ((u * (v * v * v)) * ((u * (v * v * v)) * (v * v * v) * v) ^ e) * v = u * (u * (v * v * v) * (v * v * v) * v) ^ (2 * e + 1) := by
  generalize hy : v * v * v = y
  rw [Nat.pow_succ, Nat.mul_comm 2 e, Nat.pow_mul]
  generalize hz : (u * y * y * v) ^ e = z
  rw [show z ^ 2 = z * z by rw [Nat.pow_succ, Nat.pow_one]]
  ac_rfl

/-- a fourth root of one, and which it is -/
theorem fourth {p w i : Nat} (hp : Prm p) (hw : w < p) (hi : i < p) (hii : i * i % p = p - 1) (h4 : w * w % p * (w * w % p) % p = 1) :
    (w * w % p = 1 ∧ (w = 1 ∨ w = p - 1)) ∨ (w * w % p = p - 1 ∧ (w = i ∨ w + i = p)) := by
  have h2 := hp.1
  rcases sq_one hp (Nat.mod_lt _ (by omega)) h4 with h | h
  · exact .inl ⟨h, sq_one hp hw h⟩
  · exact .inr ⟨h, sq_eq hp hw hi (by rw [h, hii])⟩

theorem mod_cancel {p a b c : Nat} (h : (a + c) % p = (b + c) % p) : a % p = b % p := by
  rcases Nat.le_total a b with hle | hle
  · refine mods_of_dvd hle ?_
    have := dvd_of_mods h
    rwa [Nat.add_sub_add_right] at this
  · refine (mods_of_dvd hle ?_).symm
    have := dvd_of_mods h.symm
    rwa [Nat.add_sub_add_right] at this

theorem neg_mul {p u : Nat} (hu : u ≤ p) (h0 : 0 < p) : u * (p - 1) % p = (p - u) % p := by
  refine mod_cancel (c := u) ?_
  rw [Nat.sub_add_cancel hu, Nat.mod_self]
  rw [show u * (p - 1) + u = u * (p - 1 + 1) by rw [Nat.mul_add, Nat.mul_one], Nat.sub_add_cancel h0, Nat.mul_mod_left]

theorem neg_swap {p u i : Nat} (hu : u ≤ p) (hi : i ≤ p) : u * (p - i) % p = (p - u) * i % p := by
  refine mod_cancel (c := u * i) ?_
  rw [← Nat.mul_add, ← Nat.add_mul, Nat.sub_add_cancel hu, Nat.sub_add_cancel hi, Nat.mul_mod_left, Nat.mul_mod_right]

theorem mul_cancel_aux {p u a b : Nat} (hp : Prm p) (hu : ¬ p ∣ u) (ha : a < p) (hle : b ≤ a) (h : u * a % p = u * b % p) : a = b := by
  have hd := dvd_of_mods h.symm
  rw [← Nat.mul_sub] at hd
  rcases hp.dvd_mul hd with h | h
  · exact absurd h hu
  · have := Nat.eq_zero_of_dvd_of_lt h (by omega)
    omega

theorem mul_cancel {p u a b : Nat} (hp : Prm p) (hu : ¬ p ∣ u) (ha : a < p) (hb : b < p) (h : u * a % p = u * b % p) : a = b := by
  rcases Nat.le_total b a with hle | hle
  · exact mul_cancel_aux hp hu ha hle h
  · exact (mul_cancel_aux hp hu hb hle h.symm).symm

theorem mod_pow_mod (a b n : Nat) : (a % n) ^ b % n = a ^ b % n := (Nat.pow_mod a b n).symm

end Go.Eng

/- The field as numbers: Euler, Legendre, the root of a ratio. -/
namespace Go.Proofs.Ytcgolglcjfknpaa
open Go Go.Eng
set_option maxRecDepth 100000

theorem ndvd {v : Nat} (hv : v < p25519) (h0 : v ≠ 0) : ¬ p25519 ∣ v := fun h => h0 (Nat.eq_zero_of_dvd_of_lt h hv)
theorem p_ph : p25519 = 2 * ph + 1 := by decide
theorem pw_ph {v : Nat} (hv : ¬ p25519 ∣ v) : pw v ph = 1 ∨ pw v ph = p25519 - 1 := by
  rw [pw_eq]; exact euler prm_p p_ph hv
theorem pw0 {e : Nat} (h : e ≠ 0) : pw 0 e = 0 := by rw [pw_eq, Nat.zero_pow (by omega)]; rfl
theorem leg_zero : legI 0 = 0 := by
  rw [legI_def]; unfold legR; rw [pw0 (by decide), decide_eq_true rfl, cond_true]
theorem leg_one {v : Nat} (h : pw v ph = 1) : legI v = 1 := by
  rw [legI_def]; unfold legR; rw [h, decide_eq_false (by decide), decide_eq_true rfl, cond_true, cond_false]
theorem leg_neg {v : Nat} (h : pw v ph = p25519 - 1) : legI v = -1 := by
  rw [legI_def]; unfold legR; rw [h, decide_eq_false (by decide), decide_eq_false (by decide), cond_false, cond_false]
theorem pw_mulN (a b e : Nat) : pw (mulN a b) e = mulN (pw a e) (pw b e) := by
  simp only [pw_eq, mulN_def, mod_pow_mod, Nat.mod_mul_mod, Nat.mul_mod_mod, Nat.mul_pow]
theorem leg_cases {v : Nat} (hv : v < p25519) : (v = 0 ∧ legI v = 0) ∨ (pw v ph = 1 ∧ legI v = 1) ∨ (pw v ph = p25519 - 1 ∧ legI v = -1) := by
  by_cases h : v = 0
  · exact .inl ⟨h, by rw [h]; exact leg_zero⟩
  · rcases pw_ph (ndvd hv h) with h | h
    · exact .inr (.inl ⟨h, leg_one h⟩)
    · exact .inr (.inr ⟨h, leg_neg h⟩)
theorem mulN_zero (a : Nat) : mulN a 0 = 0 := by rw [mulN_def, Nat.mul_zero]; rfl
theorem zero_mulN (a : Nat) : mulN 0 a = 0 := by rw [mulN_def, Nat.zero_mul]; rfl
theorem leg_mul {a b : Nat} (ha : a < p25519) (hb : b < p25519) : legI (mulN a b) = legI a * legI b := by
  rcases leg_cases ha with ⟨rfl, h1⟩ | ⟨g1, h1⟩ | ⟨g1, h1⟩
  · rw [zero_mulN, h1, Int.zero_mul]
  · rcases leg_cases hb with ⟨rfl, h2⟩ | ⟨g2, h2⟩ | ⟨g2, h2⟩
    · rw [mulN_zero, h2, Int.mul_zero]
    · rw [h1, h2, leg_one (by rw [pw_mulN, g1, g2, mulN_def]; decide)]; rfl
    · rw [h1, h2, leg_neg (by rw [pw_mulN, g1, g2, mulN_def]; decide)]; rfl
  · rcases leg_cases hb with ⟨rfl, h2⟩ | ⟨g2, h2⟩ | ⟨g2, h2⟩
    · rw [mulN_zero, h2, Int.mul_zero]
    · rw [h1, h2, leg_neg (by rw [pw_mulN, g1, g2, mulN_def]; decide)]; rfl
    · rw [h1, h2, leg_one (by rw [pw_mulN, g1, g2, mulN_def]; decide)]; rfl
/-- to the power p -/
theorem pw_p {v : Nat} (hv : v < p25519) : pw v p25519 = v := by
  by_cases h : v = 0
  · subst h; exact pw0 (by decide)
  · have := fermat prm_p (ndvd hv h)
    rw [pw_eq]
    obtain ⟨q, hq⟩ : ∃ q, p25519 - 1 = q := ⟨_, rfl⟩
    rw [hq] at this
    have e : p25519 = q + 1 := by rw [← hq]; decide
    rw [show v ^ p25519 % p25519 = v ^ (q + 1) % p25519 by rw [← e], Nat.pow_succ, ← Nat.mod_mul_mod, this, Nat.one_mul, Nat.mod_eq_of_lt hv]

/-- the fourth root of one -/
noncomputable def rootW (u v : Nat) : Nat := pw (u * (v * v * v) * (v * v * v) * v) 14474011154664524427946373126085988481658748083205070504932198000989141204987
theorem chN_eq (u v : Nat) : chN u v = mulN u (rootW u v) := by
  obtain ⟨e, he⟩ : ∃ e, e = 7237005577332262213973186563042994240829374041602535252466099000494570602493 := ⟨_, rfl⟩
  have h2 : 14474011154664524427946373126085988481658748083205070504932198000989141204987 = 2 * e + 1 := by rw [he]
  unfold chN rtN rootW
  rw [← he, h2]
  simp only [pw_eq, mulN_def, mod_pow_mod, Nat.mod_mul_mod, Nat.mul_mod_mod]
  rw [root_sq]
theorem rootW_lt (u v : Nat) : rootW u v < p25519 := pw_lt _ _
theorem rootW_sq {u v : Nat} (hv : ¬ p25519 ∣ v) : rootW u v * rootW u v % p25519 = pw (mulN u v) ph := by
  unfold rootW
  obtain ⟨q, hq⟩ : ∃ q, q = 14474011154664524427946373126085988481658748083205070504932198000989141204987 := ⟨_, rfl⟩
  have h2 : q + q = ph := by rw [hq]; decide
  have h3 : ph + ph = p25519 - 1 := by decide
  rw [← hq, pw_eq, ← Nat.mul_mod, ← Nat.pow_add, h2, pw_eq, mulN_def, mod_pow_mod]
  rw [show u * (v * v * v) * (v * v * v) * v = (u * v) * ((v * v * v) * (v * v * v)) by ac_rfl, Nat.mul_pow, Nat.mul_pow (v * v * v), ← Nat.pow_add, h3, ← Nat.mul_mod_mod]
  have hv3 : ¬ p25519 ∣ v * v * v := by
    intro h
    rcases prm_p.dvd_mul h with h | h
    · rcases prm_p.dvd_mul h with h | h <;> exact hv h
    · exact hv h
  rw [fermat prm_p hv3, Nat.mul_one]
theorem mulN_lt' (a b : Nat) : mulN a b < p25519 := mulN_lt a b
theorem i_sq : iN * iN % p25519 = p25519 - 1 := by decide
theorem i_lt : iN < p25519 := by decide
theorem absN_sq {a : Nat} (ha : a < p25519) : mulN (absN a) (absN a) = mulN a a := by
  rw [absN_def]
  cases hc : (a % 2 == 1)
  · rfl
  · rw [cond_true]
    have h0 : a ≠ 0 := fun h => by rw [h] at hc; exact absurd hc (by decide)
    have e : subN 0 a = p25519 - a := by rw [subN_def, Nat.zero_add, Nat.mod_eq_of_lt (by omega)]
    rw [e, mulN_def, mulN_def, neg_sq (by omega)]
theorem absN_even {a : Nat} (ha : a < p25519) : absN a % 2 = 0 := by
  rw [absN_def]
  cases hc : (a % 2 == 1)
  · rw [cond_false]
    have : ¬ a % 2 = 1 := fun h => by rw [h] at hc; exact absurd hc (by decide)
    omega
  · rw [beq_iff_eq] at hc
    have e : subN 0 a = p25519 - a := by rw [subN_def, Nat.zero_add, Nat.mod_eq_of_lt (by omega)]
    rw [cond_true, e]
    have h1 : p25519 % 2 = 1 := by decide
    omega
theorem ratN_even {u : Nat} (v : Nat) : ratN u v % 2 = 0 := by
  rw [ratN_def]; unfold ratR
  have h1 := absN_even (a := rtN u v) (mulN_lt _ _)
  have h2 := absN_even (a := mulN (rtN u v) iN) (mulN_lt _ _)
  cases decide (chN u v = u)
  · cases decide (chN u v = subN 0 u)
    · cases decide (chN u v = mulN (subN 0 u) iN)
      · exact h1
      · exact h2
    · exact h2
  · exact h1
theorem neg_eq {u : Nat} (hu : u < p25519) : subN 0 u = mulN u (p25519 - 1) := by
  rw [subN_def, mulN_def, neg_mul (by omega) (by decide), Nat.zero_add]
theorem negi_eq {u : Nat} (hu : u < p25519) : mulN (subN 0 u) iN = mulN u (p25519 - iN) := by
  rw [mulN_def, mulN_def, neg_swap (by omega) (by decide), subN_def, Nat.zero_add, Nat.mod_mul_mod]
theorem mulN_inj {u a b : Nat} (hu : u < p25519) (h0 : u ≠ 0) (ha : a < p25519) (hb : b < p25519) : (mulN u a = mulN u b) = (a = b) := by
  refine propext ⟨fun h => mul_cancel prm_p (ndvd hu h0) ha hb (by rwa [mulN_def, mulN_def] at h), fun h => by rw [h]⟩
/-- the root's square times v, and the root by i -/
theorem rt_i (u v : Nat) : mulN (mulN (mulN (rtN u v) iN) (mulN (rtN u v) iN)) v = mulN (chN u v) (p25519 - 1) := by
  have : mulN (mulN (mulN (rtN u v) iN) (mulN (rtN u v) iN)) v = mulN (chN u v) (iN * iN % p25519) := by
    unfold chN
    simp only [mulN_def, Nat.mod_mul_mod, Nat.mul_mod_mod]
    refine congrArg (· % p25519) ?_
    ac_rfl
  rw [this, i_sq]
theorem ratio {u v : Nat} (hu : u < p25519) (hv : v < p25519) (hv0 : v ≠ 0) :
    (ratB u v = true ∧ mulN (mulN (ratN u v) (ratN u v)) v = u ∧ 0 ≤ legI (mulN u v)) ∨ (ratB u v = false ∧ mulN (mulN (ratN u v) (ratN u v)) v = mulN iN u ∧ legI (mulN u v) = -1) := by
  have rl : rtN u v < p25519 := mulN_lt _ _
  have ril : mulN (rtN u v) iN < p25519 := mulN_lt _ _
  have hch := chN_eq u v
  by_cases h0 : u = 0
  · subst h0
    rw [zero_mulN] at hch
    left
    refine ⟨by rw [ratB_def, hch, decide_eq_true rfl, Bool.true_or], ?_, by rw [zero_mulN, leg_zero]; decide⟩
    rw [ratN_def]; unfold ratR
    rw [decide_eq_true hch, cond_true, absN_sq rl]
    exact hch
  · have hW := rootW_lt u v
    have hsq := rootW_sq (u := u) (ndvd hv hv0)
    have hm0 : mulN u v ≠ 0 := by
      rw [mulN_def]
      exact mod_pos fun h => (prm_p.dvd_mul h).elim (ndvd hu h0) (ndvd hv hv0)
    have hph := pw_ph (ndvd (mulN_lt u v) hm0)
    have h4 : rootW u v * rootW u v % p25519 * (rootW u v * rootW u v % p25519) % p25519 = 1 := by
      rw [hsq]
      rcases hph with h | h <;> rw [h] <;> decide
    have t1 : (chN u v = u) = (rootW u v = 1) := by
      rw [hch]; conv => lhs; rhs; rw [← mulN_one hu]
      exact mulN_inj hu h0 hW (by decide)
    have t2 : (chN u v = subN 0 u) = (rootW u v = p25519 - 1) := by
      rw [hch, neg_eq hu]; exact mulN_inj hu h0 hW (by decide)
    have t3 : (chN u v = mulN (subN 0 u) iN) = (rootW u v = p25519 - iN) := by
      rw [hch, negi_eq hu]; exact mulN_inj hu h0 hW (by decide)
    rw [ratB_def, ratN_def]; unfold ratR
    simp only [t1, t2, t3]
    rcases fourth prm_p hW i_lt i_sq h4 with ⟨hs, hw | hw⟩ | ⟨hs, hw | hw⟩
    · left
      rw [hsq] at hs
      rw [hw, decide_eq_true rfl, cond_true, absN_sq rl, leg_one hs]
      refine ⟨rfl, ?_, by decide⟩
      show chN u v = u
      rw [hch, hw, mulN_one hu]
    · left
      rw [hsq] at hs
      rw [hw, decide_eq_false (show ¬ p25519 - 1 = 1 by decide), decide_eq_true rfl, cond_true, cond_false, absN_sq ril, leg_one hs, rt_i, hch, hw]
      refine ⟨rfl, ?_, by decide⟩
      rw [mulN_assoc, show mulN (p25519 - 1) (p25519 - 1) = 1 by rw [mulN_def]; decide, mulN_one hu]
    · right
      rw [hsq] at hs
      rw [hw, decide_eq_false (show ¬ iN = 1 by decide), decide_eq_false (show ¬ iN = p25519 - 1 by decide), decide_eq_false (show ¬ iN = p25519 - iN by decide), cond_false, cond_false, cond_false, absN_sq rl, leg_neg hs]
      refine ⟨rfl, ?_, rfl⟩
      show chN u v = _
      rw [hch, hw, mulN_comm]
    · right
      have hw : rootW u v = p25519 - iN := by omega
      rw [hsq] at hs
      rw [hw, decide_eq_false (show ¬ p25519 - iN = 1 by decide), decide_eq_false (show ¬ p25519 - iN = p25519 - 1 by decide), decide_eq_true rfl, cond_false, cond_false, cond_true, absN_sq ril, leg_neg hs, rt_i, hch, hw]
      refine ⟨rfl, ?_, rfl⟩
      rw [mulN_assoc, show mulN (p25519 - iN) (p25519 - 1) = iN by rw [mulN_def]; decide, mulN_comm]
theorem ratN_v0 (u : Nat) : ratN u 0 = 0 := by
  have h : rtN u 0 = 0 := by unfold rtN; rw [mulN_zero (mulN 0 0), mulN_zero u, zero_mulN]
  rw [ratN_def]; unfold ratR
  rw [h, zero_mulN, show absN 0 = 0 by rw [absN_def]; decide]
  cases decide (chN u 0 = u) <;> cases decide (chN u 0 = subN 0 u) <;> cases decide (chN u 0 = mulN (subN 0 u) iN) <;> rfl
theorem ratB_v0 {u : Nat} (hu : u < p25519) : ratB u 0 = decide (u = 0) := by
  have hc : chN u 0 = 0 := by unfold chN; exact mulN_zero _
  rw [ratB_def, hc]
  by_cases h : u = 0
  · subst h; simp
  · have e : subN 0 u = p25519 - u := by rw [subN_def, Nat.zero_add, Nat.mod_eq_of_lt (by omega)]
    rw [e, decide_eq_false (show ¬ 0 = u by omega), decide_eq_false (show ¬ 0 = p25519 - u by omega), decide_eq_false h]; rfl
end Go.Proofs.Ytcgolglcjfknpaa

/- The numbers p, p - 1, (p - 1) / 2 as bytes, as the laws make them. -/
namespace Go.Proofs.Ytcgolglcjfknpaa
open Go Go.Eng
set_option maxRecDepth 100000
set_option linter.unusedVariables false
noncomputable def E20 (N : Nat) : Env := { Θ := Th, Γ := [], K := K20, ν := N20, fuel := 60, lp := [] }
theorem f20_contract (N : Nat) : Contract Try.prog 20 { sig := S20, impl := fun _ ds k => call (E20 N) S20 20 B20 R20 ds k } :=
  call_contract (E := E20 N) thOk ctxOk_nil mixed ok20.look ok20.body ok20.n ok20.rv ok20.name rfl (by decide) (loopsOk_of (l := [(0, B20_0)]) (by kernel_rfl) (allOk_skip rfl trivial))
noncomputable def E19 (N : Nat) : Env := { Θ := Th, Γ := [], K := K19, ν := N19, fuel := 60, lp := [] }
theorem f19_contract (N : Nat) : Contract Try.prog 19 { sig := S19, impl := fun _ ds k => call (E19 N) S19 42 B19 R19 ds k } :=
  call_contract (E := E19 N) thOk ctxOk_nil mixed ok19.look ok19.body ok19.n ok19.rv ok19.name rfl (by decide) (loopsOk_of (l := [(0, B19_0)]) (by kernel_rfl) (allOk_skip rfl trivial))
def prmL0 : List Int := [237, 255, 255, 255, 255, 255, 255, 255, 255, 255, 255, 255, 255, 255, 255, 255, 255, 255, 255, 255, 255, 255, 255, 255, 255, 255, 255, 255, 255, 255, 255, 127]
def prmL1 : List Int := [236, 255, 255, 255, 255, 255, 255, 255, 255, 255, 255, 255, 255, 255, 255, 255, 255, 255, 255, 255, 255, 255, 255, 255, 255, 255, 255, 255, 255, 255, 255, 127]
def halfL : List Int := [246, 255, 255, 255, 255, 255, 255, 255, 255, 255, 255, 255, 255, 255, 255, 255, 255, 255, 255, 255, 255, 255, 255, 255, 255, 255, 255, 255, 255, 255, 255, 63]

theorem f20_0 {R : Type} (k : List DV → Option R) : call (E20 0) S20 20 B20 R20 [.v (.one (.int .u8 0))] k = k [.lst .u8 1 prmL0] := by kernel_rfl
theorem f20_1 {R : Type} (k : List DV → Option R) : call (E20 0) S20 20 B20 R20 [.v (.one (.int .u8 1))] k = k [.lst .u8 1 prmL1] := by kernel_rfl
theorem f19_1 {R : Type} (k : List DV → Option R) : call (E19 0) S19 42 B19 R19 [.lst .u8 1 prmL1] k = k [.lst .u8 1 halfL] := by kernel_rfl
noncomputable def I20 : (R : Type) → List DV → (List DV → Option R) → Option R := fun _ ds k => match ds with
  | [.v (.one (.int .u8 x))] => bif decide (x = 0) then k [.lst .u8 1 prmL0] else bif decide (x = 1) then k [.lst .u8 1 prmL1] else none
  | _ => none
theorem c20 : Contract Try.prog 20 { sig := S20, impl := I20 } := by
  refine Contract.refine fun R ds k r h => ⟨_, f20_contract 0, ?_⟩
  unfold I20 at h
  split at h
  · rename_i x
    rcases hc : decide (x = 0) with _ | _
    · rw [hc, cond_false] at h
      rcases hd : decide (x = 1) with _ | _
      · rw [hd] at h; cases h
      · rw [hd, cond_true] at h
        rw [decide_eq_true_eq] at hd
        subst hd; rw [f20_1]; exact h
    · rw [hc, cond_true] at h
      rw [decide_eq_true_eq] at hc
      subst hc; rw [f20_0]; exact h
  · cases h
noncomputable def I19 : (R : Type) → List DV → (List DV → Option R) → Option R := fun _ ds k => match ds with
  | [.lst .u8 1 e] => bif decide (e = prmL1) then k [.lst .u8 1 halfL] else none
  | _ => none
theorem c19 : Contract Try.prog 19 { sig := S19, impl := I19 } := by
  refine Contract.refine fun R ds k r h => ⟨_, f19_contract 0, ?_⟩
  unfold I19 at h
  split at h
  · rename_i e
    rcases hc : decide (e = prmL1) with _ | _
    · rw [hc] at h; cases h
    · rw [hc, cond_true] at h
      rw [decide_eq_true_eq] at hc
      subst hc; rw [f19_1]; exact h
  · cases h
theorem GL_ok' : CtxOk Try.prog ((19, { sig := S19, impl := I19 }) :: (20, { sig := S20, impl := I20 }) :: GJ) := ctxOk_cons ok19 rfl c19 (ctxOk_cons ok20 rfl c20 GJ_ok)
noncomputable def GL : Ctx := (999999, noFI) :: (19, { sig := S19, impl := I19 }) :: (20, { sig := S20, impl := I20 }) :: GJ
theorem GL_ok : CtxOk Try.prog GL := ctxOk_prune GL_ok'
theorem okE_prm0 : okE prmL0 = true := by decide
theorem okE_half : okE halfL = true := by decide
theorem num_prm0 : numB prmL0 = p25519 := by decide
theorem num_half : numB halfL = ph := by decide
end Go.Proofs.Ytcgolglcjfknpaa

/- Reduce, Decode, as numbers. -/
namespace Go.Proofs.Ytcgolglcjfknpaa
open Go Go.Eng
set_option maxRecDepth 100000
set_option linter.unusedVariables false

/-- block m of 32 bytes, filled up -/
def blkU (e : List Int) (m : Nat) : List Int := ((e.drop (32 * m)).take (e.length - 32 * m)).take (min ((e.drop (32 * m)).take (e.length - 32 * m)).length 32)
def blkE (e : List Int) (m : Nat) : List Int := blkU e m ++ (List.replicate 32 0).drop (blkU e m).length
def redL (e : List Int) : Nat → List Int → List Int
  | 0, r => r
  | m + 1, r => redL e m (plusL (timesL r [38, 0, 0, 0, 0]) (loadL (blkE e m)))
noncomputable def redV (e : List Int) : Nat → Nat → Nat
  | 0, v => v
  | m + 1, v => redV e m (addN (mulN v 38) (vB (blkE e m)))
def blocks (e : List Int) : Nat := if e.length + 31 < 9223372036854775808 then (e.length + 31) / 32 else 0

theorem f63_in {R : Type} (N : Nat) (k1 : Bool → Int → List Int → List Int → List Int → List Int → Option R) (e z : List Int) :
    ∀ m : Nat, 32 * m ≤ e.length + 31 → 32 * m < 9223372036854775808 → ∀ fuel, m < fuel → ∀ r, f63_0_lp N k1 fuel ((32 * m : Nat) : Int) e z r [38, 0, 0, 0, 0] = k1 false 0 e z (redL e m r) [38, 0, 0, 0, 0] := by
  intro m
  induction m with
  | zero =>
    intro _ _ fuel hf r
    obtain ⟨f, rfl⟩ : ∃ f, fuel = f + 1 := ⟨fuel - 1, by omega⟩
    rfl
  | succ m ih =>
    intro hm hs fuel hf r
    obtain ⟨f, rfl⟩ : ∃ f, fuel = f + 1 := ⟨fuel - 1, by omega⟩
    show f63_0_st N (f63_0_lp N k1 f) k1 _ _ _ _ _ = _
    unfold f63_0_st
    rw [show decide (((32 * (m + 1) : Nat) : Int) > 0) = true from decide_eq_true (by omega), cond_true]
    rw [show IntKind.i64.wrap (((32 * (m + 1) : Nat) : Int) - 32) = ((32 * m : Nat) : Int) by rw [wrapI (by omega) (by omega)]; omega]
    dsimp only
    rw [show loOk (some ((32 * m : Nat) : Int)) (hiInt none (rowLen 1 e)) = true by
      show (decide (0 ≤ ((32 * m : Nat) : Int)) && decide (((32 * m : Nat) : Int) ≤ (e.length : Int))) = true
      rw [decide_eq_true (by omega), decide_eq_true (by omega)]; rfl, cond_true]
    exact ih (by omega) (by omega) f (by omega) _

theorem f63_spec {R : Type} (N : Nat) (e : List Int) (hN : e.length + 1 < N) (he : e.length < 9223372036854775808) (k : List DV → Option R) : f63_raw N e k = k [.v (.one (.ints .u8 32 (feL (redL e (blocks e) [0, 0, 0, 0, 0]))))] := by
  unfold f63_raw
  dsimp only
  rw [show nI (rowLen 1 e) = (e.length : Int) from rfl, show (List.replicate 5 (0 : Int)).set 0 38 = [38, 0, 0, 0, 0] from rfl]
  unfold blocks
  by_cases h : e.length + 31 < 9223372036854775808
  · rw [if_pos h, wrapI (a := (e.length : Int) + 31) (by omega) (by omega)]
    rw [show ((e.length : Int) + 31).tdiv 32 = (((e.length + 31) / 32 : Nat) : Int) from rfl]
    rw [wrapI (a := (((e.length + 31) / 32 : Nat) : Int)) (by omega) (by omega), wrapI (by omega) (by omega)]
    rw [show (((e.length + 31) / 32 : Nat) : Int) * 32 = ((32 * ((e.length + 31) / 32) : Nat) : Int) by omega]
    rw [f63_in N _ e _ ((e.length + 31) / 32) (by omega) (by omega) N (by omega)]
    rfl
  · rw [if_neg h]
    rw [show IntKind.i64.wrap ((e.length : Int) + 31) = -((18446744073709551616 - 31 - e.length : Nat) : Int) by simp [IntKind.wrap, IntKind.bits, IntKind.signed]; omega]
    rw [Int.neg_tdiv, show (((18446744073709551616 - 31 - e.length : Nat) : Int)).tdiv 32 = (((18446744073709551616 - 31 - e.length) / 32 : Nat) : Int) from rfl]
    rw [wrapI (a := -(((18446744073709551616 - 31 - e.length) / 32 : Nat) : Int)) (by omega) (by omega), wrapI (by omega) (by omega)]
    obtain ⟨f, rfl⟩ : ∃ f, N = f + 1 := ⟨N - 1, by omega⟩
    show f63_0_st _ (f63_0_lp _ _ f) _ _ _ _ _ _ = _
    unfold f63_0_st
    rw [show decide (-(((18446744073709551616 - 31 - e.length) / 32 : Nat) : Int) * 32 > 0) = false from decide_eq_false (by omega), cond_false]
    rfl

theorem blkU_mem {e : List Int} {m : Nat} {b : Int} (h : b ∈ blkU e m) : b ∈ e := List.mem_of_mem_drop (List.mem_of_mem_take (List.mem_of_mem_take h))
theorem okE_mem {e : List Int} (h : okE e = true) : ∀ b ∈ e, 0 ≤ b ∧ b < 256 := by
  obtain ⟨_, l, rfl, hl⟩ := okE_of h
  intro b hb
  obtain ⟨n, hn, rfl⟩ := List.mem_map.mp hb
  have := hl n hn
  exact ⟨Int.natCast_nonneg n, Int.ofNat_lt.mpr this⟩
theorem okB_mem {x : List Int} (hl : x.length = 32) (h : ∀ b ∈ x, 0 ≤ b ∧ b < 256) : okB x = true := by
  unfold okB
  rw [decide_eq_true hl, Bool.true_and, List.all_eq_true]
  intro b hb
  rw [Bool.and_eq_true]
  exact ⟨decide_eq_true (h b hb).1, decide_eq_true (h b hb).2⟩
theorem blk_ok {e : List Int} (h : okE e = true) (m : Nat) : okB (blkE e m) = true := by
  refine okB_mem ?_ fun b hb => ?_
  · have : (blkU e m).length ≤ 32 := by
      unfold blkU; rw [List.length_take]; omega
    unfold blkE
    rw [List.length_append, List.length_drop, List.length_replicate]; omega
  · rcases List.mem_append.1 hb with hb | hb
    · exact okE_mem h b (blkU_mem hb)
    · rw [List.eq_of_mem_replicate (List.mem_of_mem_drop hb)]; decide
theorem el38 : El [38, 0, 0, 0, 0] 38 := ⟨38, 0, 0, 0, 0, rfl, ⟨by decide, by decide, by decide, by decide, by decide⟩, by decide⟩
theorem red_el {e : List Int} (h : okE e = true) : ∀ (m : Nat) {r : List Int} {v : Nat}, El r v → El (redL e m r) (redV e m v)
  | 0, _, _, hr => hr
  | m + 1, _, _, hr => red_el h m (plus_N (times_N hr el38) (load_vB (blk_ok h m)))
noncomputable def redN : List Int → Nat := (stk fun e => redV e (blocks e) 0).1
theorem redN_def (e : List Int) : redN e = redV e (blocks e) 0 := congrFun (stk fun e => redV e (blocks e) 0).2 e
theorem redN_el {e : List Int} (h : okE e = true) : El (redL e (blocks e) [0, 0, 0, 0, 0]) (redN e) := by rw [redN_def]; exact red_el h _ zero_el
theorem redN_lt {e : List Int} (h : okE e = true) : redN e < p25519 := (redN_el h).lt
theorem zero_addN {a : Nat} (h : a < p25519) : addN 0 a = a := by rw [addN_def, Nat.zero_add, Nat.mod_eq_of_lt h]
/-- of 32 bytes it is their number -/
theorem redN_32 {e : List Int} (h : okB e = true) : redN e = vB e := by
  have hl : e.length = 32 := by obtain ⟨l, rfl, h, _⟩ := okB_of h; rw [nats_length]; exact h
  rw [redN_def]
  have hb : blocks e = 1 := by unfold blocks; rw [hl]; rfl
  have hk : blkE e 0 = e := by
    have : blkU e 0 = e := by
      unfold blkU
      rw [List.drop_zero, Nat.mul_zero, Nat.sub_zero, List.take_length, hl, List.take_of_length_le (by omega)]
    unfold blkE
    rw [this, hl]
    show e ++ [] = e
    rw [List.append_nil]
  rw [hb]
  show addN (mulN 0 38) (vB (blkE e 0)) = _
  rw [zero_mulN, hk, zero_addN (vB_lt e)]

theorem f63_num {R : Type} (N : Nat) (e : List Int) (he : okE e = true) (hN : e.length + 1 < N) (k : List DV → Option R) : f63_raw N e k = k [.v (.one (.ints .u8 32 (feN (redN e))))] := by
  rw [f63_spec N e hN (okE_of he).1, fe_num (redN_el he)]
noncomputable def I63 : (R : Type) → List DV → (List DV → Option R) → Option R := fun _ ds k => match ds with
  | [.lst .u8 1 e] => bif okE e then k [.v (.one (.ints .u8 32 (feN (redN e))))] else none
  | _ => none
theorem c63 : Contract Try.prog 63 { sig := S63, impl := I63 } := by
  refine Contract.refine fun R ds k r h => ?_
  unfold I63 at h
  split at h
  · rename_i e
    rcases hc : okE e with _ | _
    · rw [hc] at h; cases h
    · rw [hc, cond_true] at h
      refine ⟨_, f63_contract (e.length + 2) GJ_ok, ?_⟩
      rw [f63_raw_eq, f63_num _ e hc (by omega)]; exact h
  · cases h

/-- what Decode answers: bytes, error -/
noncomputable def decB : List Int → List Int := (stk fun e => bif e.length == 32 && decide (numB e < p25519) then e else List.replicate 32 0).1
theorem decB_def (e : List Int) : decB e = bif e.length == 32 && decide (numB e < p25519) then e else List.replicate 32 0 := congrFun (stk fun e : List Int => bif e.length == 32 && decide (numB e < p25519) then e else List.replicate 32 0).2 e
noncomputable def decE : List Int → Int := (stk fun e => bif e.length == 32 then bif decide (numB e < p25519) then 0 else 11 else 3).1
theorem decE_def (e : List Int) : decE e = bif e.length == 32 then bif decide (numB e < p25519) then 0 else 11 else 3 := congrFun (stk fun e : List Int => bif e.length == 32 then bif decide (numB e < p25519) then (0 : Int) else 11 else 3).2 e
theorem f64_num {R : Type} (e : List Int) (he : okE e = true) (k : List DV → Option R) : f64_raw 0 e k = k [.v (.one (.ints .u8 32 (decB e))), .v (.one (.int .i64 (decE e)))] := by
  unfold f64_raw
  rw [show nI (rowLen 1 e) = (e.length : Int) from rfl, decB_def, decE_def]
  by_cases h : e.length = 32
  · rw [show rowLen 1 e = 32 from h, List.drop_zero, List.take_of_length_le (Nat.le_of_eq h), h]
    rw [okB_mem h (okE_mem he)]
    cases decide (numB e < p25519) <;> rfl
  · rw [show ((e.length : Int) != 32) = true by rw [bne_iff_ne]; omega, cond_true, show (e.length == 32) = false by rw [beq_eq_false_iff_ne]; exact h]
    rfl
noncomputable def I64 : (R : Type) → List DV → (List DV → Option R) → Option R := fun _ ds k => match ds with
  | [.lst .u8 1 e] => bif okE e then k [.v (.one (.ints .u8 32 (decB e))), .v (.one (.int .i64 (decE e)))] else none
  | _ => none
theorem c64 : Contract Try.prog 64 { sig := S64, impl := I64 } := by
  refine Contract.refine fun R ds k r h => ⟨_, f64_contract 0 GJ_ok, ?_⟩
  unfold I64 at h
  split at h
  · rename_i e
    rcases hc : okE e with _ | _
    · rw [hc] at h; cases h
    · rw [hc, cond_true] at h
      rw [f64_raw_eq, f64_num e hc]; exact h
  · cases h
noncomputable def I65 : (R : Type) → List DV → (List DV → Option R) → Option R := fun _ ds k => match ds with
  | [.v (.one (.int .i64 x))] => k [.v (.one (.int .i64 x))]
  | _ => none
theorem c65 : Contract Try.prog 65 { sig := S65, impl := I65 } := by
  refine Contract.refine fun R ds k r h => ⟨_, f65_contract 0 GJ_ok, ?_⟩
  unfold I65 at h
  split at h
  · rw [f65_raw_eq]; exact h
  · cases h
/-- the limbs of a number, as something that no reckoning looks into -/
noncomputable def limS : Nat → List Int := (stk limN).1
theorem limS_def (v : Nat) : limS v = limN v := congrFun (stk limN).2 v
noncomputable def I13s : (R : Type) → List DV → (List DV → Option R) → Option R := fun _ ds k => match ds with
  | [.v (.one (.ints .u8 32 x))] => bif okB x then k [.v (.one (.ints .u64 5 (limS (vB x))))] else none
  | _ => none
theorem c13s : Contract Try.prog 13 { sig := S13, impl := I13s } := by
  refine Contract.refine fun R ds k r h => ⟨_, c13, ?_⟩
  unfold I13s at h
  split at h
  · rw [limS_def] at h; exact h
  · cases h
noncomputable def GM' : Ctx := (13, { sig := S13, impl := I13s }) :: (63, { sig := S63, impl := I63 }) :: (64, { sig := S64, impl := I64 }) :: (65, { sig := S65, impl := I65 }) :: GJ
theorem GM_ok' : CtxOk Try.prog GM' := ctxOk_cons ok13 rfl c13s (ctxOk_cons ok63 rfl c63 (ctxOk_cons ok64 rfl c64 (ctxOk_cons ok65 rfl c65 GJ_ok)))
noncomputable def GM : Ctx := (999999, noFI) :: GM'
theorem GM_ok : CtxOk Try.prog GM := ctxOk_prune GM_ok'
def startB (n : Nat) (x y z : List Int) : AS :=
  { n := n, lo := 0, tmps := [(0, .s (.one (.ints .u8 32 x))), (1, .s (.one (.ints .u64 5 y))), (2, .s (.one (.own 2)))], items := [(2, .view .u8 1 z)] }
end Go.Proofs.Ytcgolglcjfknpaa

/- What rime/rimelaw01.FieldBack comes to. MADE BY PROGRAM (wip/tools/mkfn.py, EngGen.lean). -/
namespace Go.Proofs.Ytcgolglcjfknpaa
open Go Go.Eng
set_option maxRecDepth 100000
set_option linter.unusedVariables false

noncomputable def f12_raw {R : Type} (N : Nat) (x : List Int) (y : List Int) (z : List Int) (k : List DV → Option R) : Option R :=
 bif okB x then
 bif Decidable.decide ((limS (vB x)).getD (mulE (Int.toNat 0) 1) 0 ≥ 2251799813685248) then k [DV.v (SV.one (At.bool Bool.false))]
 else
 let v0 : Int := IntKind.i64.wrap (0 + 1);
 bif Decidable.decide ((limS (vB x)).getD (mulE v0.toNat 1) 0 ≥ 2251799813685248) then k [DV.v (SV.one (At.bool Bool.false))]
 else
 let v1 : Int := IntKind.i64.wrap (v0 + 1);
 bif Decidable.decide ((limS (vB x)).getD (mulE v1.toNat 1) 0 ≥ 2251799813685248) then k [DV.v (SV.one (At.bool Bool.false))]
 else
 let v2 : Int := IntKind.i64.wrap (v1 + 1);
 bif Decidable.decide ((limS (vB x)).getD (mulE v2.toNat 1) 0 ≥ 2251799813685248) then k [DV.v (SV.one (At.bool Bool.false))]
 else
 let v3 : Int := IntKind.i64.wrap (v2 + 1);
 bif Decidable.decide ((limS (vB x)).getD (mulE v3.toNat 1) 0 ≥ 2251799813685248) then k [DV.v (SV.one (At.bool Bool.false))]
 else
 bif okE z then
 let v4 : List Int := Go.Eng.sub (feN (redN z)) (plusO Off.z 1 Option.none) (mulE (Go.Eng.subN (hiNat Option.none 32) Option.none) 1);
 bif okE v4 then
 let v5 : List Int := Go.Eng.sub x (plusO Off.z 1 Option.none) (mulE (Go.Eng.subN (hiNat Option.none 32) Option.none) 1);
 bif okE v5 then
 bif okW (limS (vB x)) then
 bif okB (feN (numW (limS (vB x)) % p25519)) && okB x then
 bif Decidable.decide (vB (feN (numW (limS (vB x)) % p25519)) = vB x) then
 bif okW y then
 bif okB (feN (numW y % p25519)) then
 bif okW (limS (vB (feN (numW y % p25519)))) then
 bif okW y then
 let v6 : Bool := bif Bool.true then Decidable.decide (feN (numW (limS (vB (feN (numW y % p25519)))) % p25519) = feN (numW y % p25519)) else Bool.false;
 bif v6 then
 let v7 : Bool := bif Bool.true then decE v4 == 0 else Bool.false;
 bif v7 then
 let v8 : Bool := bif Bool.true then Decidable.decide (decB v4 = feN (redN z)) else Bool.false;
 bif v8 then
 bif okB x then
 let v9 : Bool := bif Bool.true then (decE v5 == 0) == Decidable.decide (numB x < p25519) else Bool.false;
 bif v9 then
 bif decE v5 != 0 then
 bif okB x then
 bif okE v5 then
 let v10 : Bool := bif Bool.true then Decidable.decide (numB x < p25519) == Decidable.decide (feN (redN v5) = x) else Bool.false;
 k [DV.v (SV.one (At.bool v10))]
 else Option.none
 else Option.none
 else
 let v11 : Bool := bif Bool.false then Bool.true else Decidable.decide (decB v5 = x);
 let v12 : Bool := bif Bool.true then v11 else Bool.false;
 bif v12 then
 bif okB x then
 bif okE v5 then
 let v13 : Bool := bif Bool.true then Decidable.decide (numB x < p25519) == Decidable.decide (feN (redN v5) = x) else Bool.false;
 k [DV.v (SV.one (At.bool v13))]
 else Option.none
 else Option.none
 else Option.none
 else Option.none
 else Option.none
 else Option.none
 else Option.none
 else Option.none
 else Option.none
 else Option.none
 else Option.none
 else Option.none
 else Option.none
 else Option.none
 else Option.none
 else Option.none
 else Option.none
 else Option.none
else Option.none


noncomputable def E12 (N : Nat) : Env := { Θ := Th, Γ := GM, K := K12, ν := N12, fuel := 60, lp := [] }


theorem f12_loops (N : Nat) (hΓ : CtxOk Try.prog GM) : LoopsOk Try.prog (E12 N).lp B12 := loopsOk_of (l := [(0, B12_0)]) (by kernel_rfl) (allOk_skip rfl trivial)
theorem f12_raw_eq {R : Type} (N : Nat) (x : List Int) (y : List Int) (z : List Int) (k : List DV → Option R) : exec (E12 N) B12 (startB 88 x y z) (retK Th { ps := [], rs := [.val] } [] R12 k) = f12_raw N x y z k := by kernel_rfl
end Go.Proofs.Ytcgolglcjfknpaa

/- FieldBack: the law's run comes to true. -/
namespace Go.Proofs.Ytcgolglcjfknpaa
open Go Go.Eng
set_option maxRecDepth 100000

theorem limS_nats (v : Nat) : limS v = nats (digs 2251799813685248 5 v) := by rw [limS_def]; rfl
theorem limS_lt (v i : Nat) : decide ((limS v).getD i 0 ≥ 2251799813685248) = false := by
  rw [limS_nats, nats_getD]
  refine decide_eq_false ?_
  have : (digs 2251799813685248 5 v).getD i 0 < 2251799813685248 := by
    rw [List.getD_eq_getElem?_getD]
    cases h : (digs 2251799813685248 5 v)[i]? with
    | none => decide
    | some a => exact digs_lt (by decide) a (List.mem_of_getElem? h)
  omega
theorem okW_nats {l : List Nat} (hl : l.length = 5) (h : ∀ b ∈ l, b < 18446744073709551616) : okW (nats l) = true := by
  unfold okW
  rw [nats_length, decide_eq_true hl, Bool.true_and, List.all_eq_true]
  intro b hb
  unfold nats at hb
  obtain ⟨n, hn, rfl⟩ := List.mem_map.mp hb
  have := h n hn
  rw [Bool.and_eq_true]
  exact ⟨decide_eq_true (Int.natCast_nonneg n), decide_eq_true (Int.ofNat_lt.mpr this)⟩
theorem okW_limS (v : Nat) : okW (limS v) = true := by
  rw [limS_nats]
  refine okW_nats (digs_length _ _ _) fun b hb => ?_
  have := digs_lt (by decide) b hb
  omega
theorem numW_limS {v : Nat} (h : v < p25519) : numW (limS v) = v := by
  unfold numW
  rw [limS_nats, nats_toNat, digs_val, Nat.mod_eq_of_lt (Nat.lt_trans h (by decide))]
theorem okB_len {x : List Int} (h : okB x = true) : x.length = 32 := by
  obtain ⟨l, rfl, hl, _⟩ := okB_of h
  rw [nats_length]; exact hl
theorem sub32 {x : List Int} (h : okB x = true) : Go.Eng.sub x (plusO Off.z 1 Option.none) (mulE (Go.Eng.subN (hiNat Option.none 32) Option.none) 1) = x := by
  show x.take 32 = x
  rw [List.take_of_length_le (Nat.le_of_eq (okB_len h))]
theorem okE_okB {x : List Int} (h : okB x = true) : okE x = true := by
  have hl := okB_len h
  unfold okB at h
  rw [Bool.and_eq_true] at h
  unfold okE
  rw [h.2, decide_eq_true (by omega)]; rfl
theorem canon_iff {x : List Int} (h : okB x = true) : decide (feN (vB x) = x) = decide (numB x < p25519) := by
  refine decide_eq_decide.mpr ⟨fun e => ?_, fun e => ?_⟩
  · have := numB_lt (v := vB x) (Nat.lt_trans (vB_lt x) p_lt)
    rw [e] at this
    rw [this]; exact vB_lt x
  · rw [vB_def, Nat.mod_eq_of_lt e, feN_numB h]
theorem decE_fe {v : Nat} (h : v < p25519) : decE (feN v) = 0 := by
  rw [decE_def, okB_len (okB_feN v), numB_lt (Nat.lt_trans h p_lt), decide_eq_true h]; rfl
theorem decB_fe {v : Nat} (h : v < p25519) : decB (feN v) = feN v := by
  rw [decB_def, okB_len (okB_feN v), numB_lt (Nat.lt_trans h p_lt), decide_eq_true h]; rfl

theorem f12_true (N : Nat) {x y z : List Int} (hx : okB x = true) (hy : okW y = true) (hz : okE z = true) : f12_raw N x y z some = some [.v (.one (.bool true))] := by
  unfold f12_raw
  dsimp only
  have hr := redN_lt hz
  have hm : numW y % p25519 < p25519 := Nat.mod_lt _ (by decide)
  simp only [hx, hy, hz, limS_lt, cond_true, cond_false, sub32 hx, sub32 (okB_feN (redN z)), okE_okB hx, okE_okB (okB_feN (redN z)), okW_limS, okB_feN, Bool.and_self, numW_limS (vB_lt x), Nat.mod_eq_of_lt (vB_lt x), vB_feN (vB_lt x), decide_true, vB_feN hm, numW_limS hm, Nat.mod_mod, decE_fe hr, decB_fe hr, beq_self_eq_true, redN_32 hx, canon_iff hx]
  rw [decE_def, decB_def, okB_len hx, show ((32 : Nat) == 32) = true from rfl, cond_true, Bool.true_and]
  cases decide (numB x < p25519)
  · rfl
  · rw [cond_true, cond_true, decide_eq_true rfl]; rfl
end Go.Proofs.Ytcgolglcjfknpaa

/- FieldBack: Split and Join undo each other; Decode takes what Reduce answers, and nothing else. -/
namespace Go.Proofs.Ytcgolglcjfknpaa
open Go Go.Eng Go.ChangeShapes Go.WideShapes Go.RowKit Go.ChangeAt
set_option maxRecDepth 100000

theorem contract12 (H : Type) (enc : TypeId × Value → H) (W : World) (base : Nat) (args : Array Value) (ds gs : List (DataW H)) (before : List MemPlace)
    (hval : ∀ (j : Nat) t v, Try.f12.params[j]? = some t → args[j]? = some v → Value.okWide Try.prog W .any base t v)
    (hW : DataW.Whole enc Try.prog Try.f12.params.toList Rows.fieldBackSpec.vars false W args.toList ds gs before) :
    Calls Try.prog 12 args W fun e W' => ∃ v, e = .returned v ∧ Rows.fieldBackSpec.post enc Try.prog Try.f12 false true false false W args v W' := by
  have hW' := hW
  obtain ⟨p, q, hA, hV, rfl, hfz, hnd⟩ := hW
  obtain ⟨rfl, rfl⟩ := trodVars_none hV
  rw [Try.params12] at hA hval
  obtain ⟨v0, vs0, d0, ds0, p0, q0, hargs, rfl, rfl, h0, r0⟩ := trodAll_cons hA
  obtain ⟨v1, vs1, d1, ds1, p1, q1, rfl, rfl, rfl, h1, r1⟩ := trodAll_cons r0
  obtain ⟨v2, vs2, d2, ds2, p2, q2, rfl, rfl, rfl, h2, r2⟩ := trodAll_cons r1
  obtain ⟨rfl, rfl, rfl⟩ := trodAll_nil r2
  obtain rfl : args = #[v0, v1, v2] := by cases args; simp_all
  obtain ⟨x0, rfl, l0, w0⟩ := open_arr Try.underlying23 Try.underlying5 (by kernel_rfl) (by kernel_rfl) (hval 0 23 v0 rfl rfl) h0
  obtain ⟨x1, rfl, l1, w1⟩ := open_arr Try.underlying26 Try.underlying24 (by kernel_rfl) (by kernel_rfl) (hval 1 26 v1 rfl rfl) h1
  obtain ⟨A2, n2, c2, rfl⟩ := okWide_slice Try.underlying32 (hval 2 32 v2 rfl rfl)
  obtain ⟨f2, h2⟩ := h2
  obtain ⟨x2, len2, cap2, Ad2, loc2, o21, o22, l2, o24, o25, o26, w2, o28⟩ := open_view (k := .u8) (es := 1) Try.underlying32 (by omega) (elB H enc) h2
  have m2 : len2 < 9223372036854775808 := by
    have e := o21
    injection e with e
    injection e with _ e
    rw [← e]; exact view_max (A := A2) (c := c2) Try.underlying32 h2
  have hs : Sim W ⟨fun _ => False, locOf [(2, loc2)]⟩ (⟨locOf [(2, loc2)], fun _ => 0⟩ : Rho) (startB 88 x0 x1 x2) { tmps := #[.agg (x0.map (Value.int .u8)).toArray, .agg (x1.map (Value.int .u64)).toArray, .slice A2 n2 c2] ++ Array.replicate (88 - 3) undef, defers := [] } W := by
    refine sim_start (s0 := startB 88 x0 x1 x2) (ρ := ⟨locOf [(2, loc2)], fun _ => 0⟩) (args := #[.agg (x0.map (Value.int .u8)).toArray, .agg (x1.map (Value.int .u64)).toArray, .slice A2 n2 c2]) (n := 88) (avs := [.s (.one (.ints .u8 32 x0)), .s (.one (.ints .u64 5 x1)), .s (.one (.own 2))]) rfl (by simp) rfl ?_ ?_ ?_ ⟨⟨rfl, l0⟩, ⟨rfl, l1⟩, (show RelAt ⟨locOf [(2, loc2)], fun _ => 0⟩ (startB 88 x0 x1 x2).S (.own 2) [Value.slice A2 n2 c2] from rel_own rfl o21 o22 l2 o25 (by omega) rfl), trivial⟩
    · simp [startB, Nodup', putNames]
    · intro j it hi
      simp only [startB, AS.I, findI_cons] at hi
      split at hi
      · rename_i hj; subst hj; injection hi with hi; subst hi
        exact ⟨_, _, _, rfl, by omega, ⟨len2, l2⟩, o24⟩
      ·
        simp [findI] at hi
    · intro j p hp
      simp only [locOf] at hp
      split at hp
      · exact o26 p hp
      ·
        cases hp
  have he := f12_true 60 (okB_row l0 w0) (okW_row l1 w1) (okE_row m2 l2 w2)
  rw [← f12_raw_eq] at he
  refine (law_calls thOk GM_ok mixed ok12 (f12_loops 60 GM_ok) (fun _ => id) hs he).mono fun e W' ⟨h1, h2, h3, h4⟩ => ?_
  exact ⟨_, h1, post_of_law laidOut (by kernel_rfl) Try.underlying4 rfl (by rw [Try.params12]; intro t ht; simp only [List.mem_cons, List.not_mem_nil, or_false] at ht; rcases ht with rfl | rfl | rfl <;> exact ⟨by kernel_rfl, by decide +kernel⟩) ⟨rfl, rfl, rfl⟩ hW' h2 h3 h4⟩

theorem lifted12 (os : Os) (started : os.Started) (H : Type) (enc : TypeId × Value → H) :
    ReturnsInHanded {} Try.checked os 12 .any (Rows.fieldBackSpec.pre6 enc Try.prog Try.f12 Rows.fieldBackRow.domain false) (Rows.fieldBackSpec.post enc Try.prog Try.f12 false true false false) := by
  refine returnsInHanded_of_change (C := Try.checked) own0 started (by kernel_rfl) Try.func12
    (ChangeSpec.witness6 (enc := enc) (C := Try.checked) false ⟨#[], #[.agg (Array.mk (List.replicate 32 (Value.int .u8 0))), .agg (Array.mk (List.replicate 5 (Value.int .u64 0))), .slice none 0 0], []⟩ 8 (by kernel_rfl) (by kernel_rfl) (by kernel_rfl) (by kernel_rfl)) ?_
  intro W base args ds gs before hval hW _ _
  exact contract12 H enc W base args ds gs before hval hW

theorem fieldBack_holds : Rows.FieldBackSaid :=
  OpenClaim.holds_of_wide 12 Try.f12 rfl rfl rfl rfl rfl rfl rfl ⟨rfl, rfl, rfl, rfl, rfl⟩ rfl rfl rfl rfl rfl (by kernel_rfl) Try.func12 (by kernel_rfl)
    (of_decide_eq_true (by kernel_rfl)) (by unfold Func.isWrapper; first | (rw [if_pos (by decide +kernel)]; kernel_rfl) | (rw [if_neg (by decide +kernel)]; exact ⟨rfl, rfl⟩))
    (fun os started H enc _ => lifted12 os started H enc)
end Go.Proofs.Ytcgolglcjfknpaa

#print axioms Go.Proofs.Ytcgolglcjfknpaa.fieldBack_holds
