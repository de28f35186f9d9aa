/- SealBlocks: for any key, counter, nonce and bytes whose data stay within 1,048,576: the stream and the block are the document's, and the bytes that were handed in stand as they stood. -/
import Derived.Test.YtiaddnmloonhgaaSealBlocksUptoSaidT3
import Derived.WalkKit
import Derived.ProofKit
import Derived.JoinedCond
set_option linter.unusedVariables false
set_option linter.unusedSimpArgs false

/- Given: what is handed in is copied, with marks behind it; is it all as it was? -/
namespace Go.Proofs.Ytiaddnmloonhgaa
open Go Go.Eng
set_option maxRecDepth 100000


theorem given_marks {R : Type} {N : Nat} (k1 : Bool → Int → List Int → List Int → Option R) (y xs : List Int) (hb : xs.length ≤ limG) :
    ∀ (m i : Nat), i + m = xs.length → ∀ fuel, m < fuel → f15_0_lp N k1 fuel (i : Int) y (fillG (fun (j : Nat) => markI 987 (j : Int)) i xs) = k1 false (xs.length : Int) y (marksG xs.length) := by
  have hb' : xs.length ≤ 1099511627776 := hb
  intro m
  induction m with
  | zero =>
    intro i h fuel hf
    obtain ⟨f, rfl⟩ : ∃ f, fuel = f + 1 := ⟨fuel - 1, by omega⟩
    have : i = xs.length := by omega
    subst this
    show f15_0_st N (f15_0_lp N _ f) _ _ _ _ = _
    unfold f15_0_st
    rw [fillG_marks]
    rw [show decide (((xs.length : Nat) : Int) < nI (rowLen 1 (marksG xs.length))) = false by simp [by_rowLen, marksG_length], cond_false]
  | succ m ih =>
    intro i h fuel hf
    obtain ⟨f, rfl⟩ : ∃ f, fuel = f + 1 := ⟨fuel - 1, by omega⟩
    show f15_0_st N (f15_0_lp N _ f) _ _ _ _ = _
    unfold f15_0_st
    have h1 : decide ((i : Int) < nI (rowLen 1 (fillG (fun (j : Nat) => markI 987 (j : Int)) i xs))) = true := by simp [by_rowLen, fillG_length]; omega
    have h4 : IntKind.i64.wrap ((i : Int) + 1) = ((i + 1 : Nat) : Int) := by_wrap (n := i + 1) (by omega)
    simp only [h1, h4, by_mulE, Int.toNat_natCast]
    rw [show (decide ((0 : Int) ≤ (i : Int)) && true) = true by simp, cond_true, cond_true]
    rw [fillG_set (fun (j : Nat) => markI 987 (j : Int)), ih (i + 1) (by omega) f (by omega)]

theorem given_copy {R : Type} {N : Nat} (k1 : Bool → Int → List Int → List Int → Option R) (y xs : List Int) (hb : y.length ≤ limG) (hl : y.length ≤ xs.length) :
    ∀ (m i : Nat), i + m = y.length → ∀ fuel, m < fuel → f15_2_lp N k1 fuel (i : Int) y (fillG (fun (j : Nat) => y.getD j 0) i xs) = k1 false (y.length : Int) y (overG y xs) := by
  have hb' : y.length ≤ 1099511627776 := hb
  intro m
  induction m with
  | zero =>
    intro i h fuel hf
    obtain ⟨f, rfl⟩ : ∃ f, fuel = f + 1 := ⟨fuel - 1, by omega⟩
    have : i = y.length := by omega
    subst this
    show f15_2_st N (f15_2_lp N _ f) _ _ _ _ = _
    unfold f15_2_st
    rw [show decide (((y.length : Nat) : Int) < nI (rowLen 1 y)) = false by simp [by_rowLen], cond_false]
    rfl
  | succ m ih =>
    intro i h fuel hf
    obtain ⟨f, rfl⟩ : ∃ f, fuel = f + 1 := ⟨fuel - 1, by omega⟩
    show f15_2_st N (f15_2_lp N _ f) _ _ _ _ = _
    unfold f15_2_st
    have h1 : decide ((i : Int) < nI (rowLen 1 y)) = true := by simp [by_rowLen]; omega
    have h2 : decide ((i : Int) < nI (rowLen 1 (fillG (fun (j : Nat) => y.getD j 0) i xs))) = true := by simp [by_rowLen, fillG_length]; omega
    have h4 : IntKind.i64.wrap ((i : Int) + 1) = ((i + 1 : Nat) : Int) := by_wrap (n := i + 1) (by omega)
    simp only [h1, h2, h4, by_mulE, Int.toNat_natCast]
    rw [show (decide ((0 : Int) ≤ (i : Int)) && true) = true by simp, cond_true, cond_true, cond_true]
    rw [fillG_set (fun (j : Nat) => y.getD j 0), ih (i + 1) (by omega) f (by omega)]

noncomputable def L15_0 : LoopFn := mkLF N15_0 f15_0_sh fun _ ls K => match ls with
  | [.i x1, .l x2, .l x3] => bif decide (x1 = 0) && Nat.ble x3.length limG then K X.normal (fill f15_0_ex1 [.b false, .i (nI x3.length), .l x2, .l (marksG x3.length)]) else none
  | _ => none
noncomputable def L15_2 : LoopFn := mkLF N15_2 f15_2_sh fun _ ls K => match ls with
  | [.i x1, .l x2, .l x3] => bif decide (x1 = 0) && (Nat.ble x2.length limG && Nat.ble x2.length x3.length) then K X.normal (fill f15_2_ex1 [.b false, .i (nI x2.length), .l x2, .l (overG x2 x3)]) else none
  | _ => none
theorem L15_0_ok : LoopOk Try.prog L15_0 0 B15_0 := by
  refine loopOkF_of (E := E15 0) thOk2 QB0_ok mixed (loopsOk_of (l := []) (by kernel_rfl) trivial) ?_
  intro R ls K r h
  split at h
  · rename_i x1 x2 x3
    refine ⟨x3.length + 1, ?_⟩
    rw [f15_0_lp_eq]
    cases hc : decide (x1 = 0) && Nat.ble x3.length limG with
    | true =>
      rw [hc] at h
      rw [Bool.and_eq_true] at hc
      have := given_marks (N := 0) (fun y1 y2 y3 y4 => K X.normal (fill f15_0_ex1 [.b y1, .i y2, .l y3, .l y4])) x2 x3 (Nat.le_of_ble_eq_true hc.2) x3.length 0 (by omega) (x3.length + 1) (by omega)
      rw [fillG_zero] at this
      rw [of_decide_eq_true hc.1]
      exact this.trans h
    | false => rw [hc] at h; cases h
  · cases h
theorem L15_2_ok : LoopOk Try.prog L15_2 2 B15_2 := by
  refine loopOkF_of (E := E15 0) thOk2 QB0_ok mixed (loopsOk_of (l := []) (by kernel_rfl) trivial) ?_
  intro R ls K r h
  split at h
  · rename_i x1 x2 x3
    refine ⟨x2.length + 1, ?_⟩
    rw [f15_2_lp_eq]
    cases hc : decide (x1 = 0) && (Nat.ble x2.length limG && Nat.ble x2.length x3.length) with
    | true =>
      rw [hc] at h
      rw [Bool.and_eq_true, Bool.and_eq_true] at hc
      have := given_copy (N := 0) (fun y1 y2 y3 y4 => K X.normal (fill f15_2_ex1 [.b y1, .i y2, .l y3, .l y4])) x2 x3 (Nat.le_of_ble_eq_true hc.2.1) (Nat.le_of_ble_eq_true hc.2.2) x2.length 0 (by omega) (x2.length + 1) (by omega)
      rw [fillG_zero] at this
      rw [of_decide_eq_true hc.1]
      exact this.trans h
    | false => rw [hc] at h; cases h
  · cases h

noncomputable def EG15 : Env := { Θ := Th2, Γ := QB0, K := K15, ν := [], fuel := 0, lp := [(0, L15_0), (2, L15_2)] }
noncomputable def G15 : FI := { sig := { ps := [], rs := [] }, impl := fun _ ds k => callN EG15 2 61 B15 R15 ds k, kind := .inl 2 }
theorem cG15 : Contract Try.prog 15 G15 := inl_contract (E := EG15) thOk2 QB0_ok mixed ok15 (loopsOk_of (l := [(0, B15_0), (2, B15_2)]) (by kernel_rfl) (allOk_cons (L := L15_0) rfl L15_0_ok (allOk_cons (L := L15_2) rfl L15_2_ok trivial)))
noncomputable def EG22 : Env := { Θ := Th2, Γ := QB0, K := K22, ν := N22, fuel := 5, lp := [] }
noncomputable def G22 : FI := { sig := { ps := [], rs := [] }, impl := fun _ ds k => callN EG22 1 393 B22 R22 ds k, kind := .inl 1 }
theorem cG22 : Contract Try.prog 22 G22 := inl_contract (E := EG22) thOk2 QB0_ok mixed ok22 (loopsOk_of (l := [(0, B22_0), (2, B22_2), (4, B22_4), (6, B22_6), (8, B22_8), (10, B22_10), (12, B22_12), (14, B22_14), (16, B22_16), (18, B22_18), (20, B22_20), (22, B22_22), (24, B22_24), (26, B22_26), (28, B22_28)]) (by kernel_rfl) (allOk_skip rfl (allOk_skip rfl (allOk_skip rfl (allOk_skip rfl (allOk_skip rfl (allOk_skip rfl (allOk_skip rfl (allOk_skip rfl (allOk_skip rfl (allOk_skip rfl (allOk_skip rfl (allOk_skip rfl (allOk_skip rfl (allOk_skip rfl (allOk_skip rfl trivial))))))))))))))))
end Go.Proofs.Ytiaddnmloonhgaa

/- What rime/rimeref12.Stream comes to. MADE BY PROGRAM (wip/tools/mkfn.py, EngGen.lean). -/
namespace Go.Proofs.Ytiaddnmloonhgaa
open Go Go.Eng
set_option maxRecDepth 100000
set_option linter.unusedVariables false

def f17_2_sh : Shp := { n := 71, lo := 4, slots := [(1, .one (.int IntKind.u32)), (3, .one (.fix (At.own 3))), (4, .one (.fix (At.ptr 4 0 Off.z 32))), (6, .one (.fix (At.ptr 6 0 Off.z 12))), (11, .one (.fix (At.own 1000011))), (12, .one (.int IntKind.i64)), (13, .one (.fix (At.ptr 13 0 Off.z 64))), (14, .one (.int IntKind.i64))], items := [(1000011, .row IntKind.u8 1), (3, .view IntKind.u8 1), (4, .obj [.ints IntKind.u8 32]), (6, .obj [.ints IntKind.u8 12]), (13, .obj [.ints IntKind.u8 64])] }
def f17_2_ex1 : Shp := { n := 71, lo := 4, slots := [(54, .one (.bool)), (1, .one (.int IntKind.u32)), (3, .one (.fix (At.own 3))), (4, .one (.fix (At.ptr 4 0 Off.z 32))), (6, .one (.fix (At.ptr 6 0 Off.z 12))), (11, .one (.fix (At.own 1000011))), (12, .one (.int IntKind.i64)), (13, .one (.fix (At.ptr 13 0 Off.z 64))), (14, .one (.int IntKind.i64))], items := [(1000011, .row IntKind.u8 1), (3, .view IntKind.u8 1), (4, .obj [.ints IntKind.u8 32]), (6, .obj [.ints IntKind.u8 12]), (13, .obj [.ints IntKind.u8 64])] }
noncomputable def f17_2_st {R : Type} (N : Nat) (self : Int → Int → Int → List Int → List Int → List Int → List Int → List Int → Option R) (k1 : Bool → Int → Int → Int → List Int → List Int → List Int → List Int → List Int → Option R) (x1 : Int) (x2 : Int) (x3 : Int) (x4 : List Int) (x5 : List Int) (x6 : List Int) (x7 : List Int) (x8 : List Int) : Option R :=
 let v0 : Int := IntKind.i64.wrap (x2 + 64);
bif Decidable.decide (x3 < v0) then
 let v1 : Bool := bif Bool.true then Decidable.decide (x3 < nI (rowLen 1 x5)) else Bool.false;
 bif v1 then
 bif Decidable.decide (0 ≤ x3) && Decidable.decide (x3 < nI (rowLen 1 x5)) then
 let v2 : Int := IntKind.i64.wrap (x3 - x2);
 bif Decidable.decide (0 ≤ v2) && Decidable.decide (v2 < 64) then
 let v3 : Int := xorI IntKind.u8 (x5.getD (mulE x3.toNat 1) 0) (x8.getD (mulE v2.toNat 1) 0);
 let v4 : List Int := (zerosOf (1 * 1)).set 0 v3;
 bif ((2 * (rowLen 1 x4 + rowLen 1 v4) + 192) * 1).ble big48 && (rowLen 1 x4 + rowLen 1 v4).ble big48 then
 let v5 : Int := IntKind.i64.wrap (x3 + 1);
 let v6 : List Int := x4 ++ v4;
 self x1 x2 v5 v6 x5 x6 x7 x8
 else Option.none
 else Option.none
 else Option.none
 else k1 v1 x1 x2 x3 x4 x5 x6 x7 x8
else k1 Bool.false x1 x2 x3 x4 x5 x6 x7 x8
noncomputable def f17_2_lp {R : Type} (N : Nat) (k1 : Bool → Int → Int → Int → List Int → List Int → List Int → List Int → List Int → Option R) : Nat → Int → Int → Int → List Int → List Int → List Int → List Int → List Int → Option R
 | 0, _, _, _, _, _, _, _, _ => none
 | n + 1, x1, x2, x3, x4, x5, x6, x7, x8 => f17_2_st N (f17_2_lp N k1 n) k1 x1 x2 x3 x4 x5 x6 x7 x8
noncomputable def f17_2_F (N : Nat) : (R : Type) → List Leaf → (X → AS → Option R) → Option R := fun _ ls K => match ls with
 | [.i x1, .i x2, .i x3, .l x4, .l x5, .l x6, .l x7, .l x8] => f17_2_lp N (fun y1 y2 y3 y4 y5 y6 y7 y8 y9 => K (X.normal) (fill f17_2_ex1 [.b y1, .i y2, .i y3, .i y4, .l y5, .l y6, .l y7, .l y8, .l y9])) N x1 x2 x3 x4 x5 x6 x7 x8
 | _ => none
def f17_0_sh : Shp := { n := 71, lo := 4, slots := [(1, .one (.int IntKind.u32)), (3, .one (.fix (At.own 3))), (4, .one (.fix (At.ptr 4 0 Off.z 32))), (6, .one (.fix (At.ptr 6 0 Off.z 12))), (11, .one (.fix (At.own 1000011))), (12, .one (.int IntKind.i64))], items := [(1000011, .row IntKind.u8 1), (3, .view IntKind.u8 1), (4, .obj [.ints IntKind.u8 32]), (6, .obj [.ints IntKind.u8 12])] }
def f17_0_ex1 : Shp := { n := 71, lo := 4, slots := [(33, .one (.bool)), (1, .one (.int IntKind.u32)), (3, .one (.fix (At.own 3))), (4, .one (.fix (At.ptr 4 0 Off.z 32))), (6, .one (.fix (At.ptr 6 0 Off.z 12))), (11, .one (.fix (At.own 1000011))), (12, .one (.int IntKind.i64))], items := [(1000011, .row IntKind.u8 1), (3, .view IntKind.u8 1), (4, .obj [.ints IntKind.u8 32]), (6, .obj [.ints IntKind.u8 12])] }
noncomputable def f17_0_st {R : Type} (N : Nat) (self : Int → Int → List Int → List Int → List Int → List Int → Option R) (k1 : Bool → Int → Int → List Int → List Int → List Int → List Int → Option R) (x1 : Int) (x2 : Int) (x3 : List Int) (x4 : List Int) (x5 : List Int) (x6 : List Int) : Option R :=
 bif Decidable.decide (x2 < nI (rowLen 1 x4)) then
 bif okN 32 x5 && okN 12 x6 then
 let v0 : Int := IntKind.i64.wrap (x2.tdiv 64);
 let v1 : Int := IntKind.u32.wrap v0;
 let v2 : Int := IntKind.u32.wrap (x1 + v1);
 f17_2_lp N
 (fun w3_1 w3_2 w3_3 w3_4 w3_5 w3_6 w3_7 w3_8 w3_9 =>
 let v4 : Int := IntKind.i64.wrap (w3_3 + 64);
 self w3_2 v4 w3_5 w3_6 w3_7 w3_8)
 N x1 x2 x2 x3 x4 x5 x6 (blockL x5 v2 x6)
 else Option.none
else k1 (Decidable.decide (x2 < nI (rowLen 1 x4))) x1 x2 x3 x4 x5 x6
noncomputable def f17_0_lp {R : Type} (N : Nat) (k1 : Bool → Int → Int → List Int → List Int → List Int → List Int → Option R) : Nat → Int → Int → List Int → List Int → List Int → List Int → Option R
 | 0, _, _, _, _, _, _ => none
 | n + 1, x1, x2, x3, x4, x5, x6 => f17_0_st N (f17_0_lp N k1 n) k1 x1 x2 x3 x4 x5 x6
noncomputable def f17_0_F (N : Nat) : (R : Type) → List Leaf → (X → AS → Option R) → Option R := fun _ ls K => match ls with
 | [.i x1, .i x2, .l x3, .l x4, .l x5, .l x6] => f17_0_lp N (fun y1 y2 y3 y4 y5 y6 y7 => K (X.normal) (fill f17_0_ex1 [.b y1, .i y2, .i y3, .l y4, .l y5, .l y6, .l y7])) N x1 x2 x3 x4 x5 x6
 | _ => none
noncomputable def f17_raw {R : Type} (N : Nat) (key : List Int) (ctr : Int) (nonce : List Int) (b : List Int) (k : List DV → Option R) : Option R :=
 let v0 : Int := IntKind.i64.wrap (nI (rowLen 1 b) + 63);
let v1 : Int := IntKind.u64.wrap v0;
let v2 : Int := IntKind.u64.wrap (v1.tdiv 64);
bif Decidable.decide (v2 > 0) then
 let v3 : Int := IntKind.u64.wrap ctr;
 let v4 : Int := IntKind.u64.wrap (v3 + v2);
 let v5 : Int := IntKind.u64.wrap (v4 - 1);
 let v6 : Bool := bif Bool.true then Decidable.decide (v5 > 4294967295) else Bool.false;
 bif v6 then k [DV.lst IntKind.u8 1 [], DV.v (SV.one (At.int IntKind.i64 122))] else f17_0_lp N (fun w7_1 w7_2 w7_3 w7_4 w7_5 w7_6 w7_7 => k [DV.lst IntKind.u8 1 w7_4, DV.v (SV.one (At.int IntKind.i64 0))]) N ctr 0 [] b key nonce
else f17_0_lp N (fun w8_1 w8_2 w8_3 w8_4 w8_5 w8_6 w8_7 => k [DV.lst IntKind.u8 1 w8_4, DV.v (SV.one (At.int IntKind.i64 0))]) N ctr 0 [] b key nonce


noncomputable def E17 (N : Nat) : Env := { Θ := Th, Γ := Q17, K := K17, ν := N17, fuel := 0, lp := [(0, mkL N17_0 f17_0_sh (f17_0_F N)), (2, mkL N17_2 f17_2_sh (f17_2_F N))] }

theorem f17_2_st_eq {R : Type} (N : Nat) (K : X → AS → Option R) (n : Nat) (x1 : Int) (x2 : Int) (x3 : Int) (x4 : List Int) (x5 : List Int) (x6 : List Int) (x7 : List Int) (x8 : List Int) : roundsOf (E17 N) N17_2 2 B17_2 K (n + 1) (fill f17_2_sh [.i x1, .i x2, .i x3, .l x4, .l x5, .l x6, .l x7, .l x8]) = f17_2_st N (fun x1 x2 x3 x4 x5 x6 x7 x8 => roundsOf (E17 N) N17_2 2 B17_2 K n (fill f17_2_sh [.i x1, .i x2, .i x3, .l x4, .l x5, .l x6, .l x7, .l x8])) (fun y1 y2 y3 y4 y5 y6 y7 y8 y9 => K (X.normal) (fill f17_2_ex1 [.b y1, .i y2, .i y3, .i y4, .l y5, .l y6, .l y7, .l y8, .l y9])) x1 x2 x3 x4 x5 x6 x7 x8 := by kernel_rfl
theorem f17_2_lp_eq {R : Type} (N : Nat) (K : X → AS → Option R) : ∀ (n : Nat) (x1 : Int) (x2 : Int) (x3 : Int) (x4 : List Int) (x5 : List Int) (x6 : List Int) (x7 : List Int) (x8 : List Int), roundsOf (E17 N) N17_2 2 B17_2 K n (fill f17_2_sh [.i x1, .i x2, .i x3, .l x4, .l x5, .l x6, .l x7, .l x8]) = f17_2_lp N (fun y1 y2 y3 y4 y5 y6 y7 y8 y9 => K (X.normal) (fill f17_2_ex1 [.b y1, .i y2, .i y3, .i y4, .l y5, .l y6, .l y7, .l y8, .l y9])) n x1 x2 x3 x4 x5 x6 x7 x8
  | 0, _, _, _, _, _, _, _, _ => rfl
  | n + 1, x1, x2, x3, x4, x5, x6, x7, x8 => by
    rw [f17_2_st_eq, f17_2_lp, show (fun x1 x2 x3 x4 x5 x6 x7 x8 => roundsOf (E17 N) N17_2 2 B17_2 K n (fill f17_2_sh [.i x1, .i x2, .i x3, .l x4, .l x5, .l x6, .l x7, .l x8])) = f17_2_lp N (fun y1 y2 y3 y4 y5 y6 y7 y8 y9 => K (X.normal) (fill f17_2_ex1 [.b y1, .i y2, .i y3, .i y4, .l y5, .l y6, .l y7, .l y8, .l y9])) n from by funext x1 x2 x3 x4 x5 x6 x7 x8; exact f17_2_lp_eq N K n x1 x2 x3 x4 x5 x6 x7 x8]
theorem f17_2_ok (N : Nat) (hlp : LoopsOk Try.prog (E17 N).lp B17_2) (hΓ : CtxOk Try.prog (E17 N).Γ) : LoopOk Try.prog (mkL N17_2 f17_2_sh (f17_2_F N)) 2 B17_2 := by
  refine loopOk_of (E := E17 N) thOk hΓ mixed hlp ?_
  intro R ls K r h
  unfold f17_2_F at h
  split at h
  · exact ⟨N, by rw [f17_2_lp_eq]; exact h⟩
  · cases h
theorem f17_0_st_eq {R : Type} (N : Nat) (K : X → AS → Option R) (n : Nat) (x1 : Int) (x2 : Int) (x3 : List Int) (x4 : List Int) (x5 : List Int) (x6 : List Int) : roundsOf (E17 N) N17_0 0 B17_0 K (n + 1) (fill f17_0_sh [.i x1, .i x2, .l x3, .l x4, .l x5, .l x6]) = f17_0_st N (fun x1 x2 x3 x4 x5 x6 => roundsOf (E17 N) N17_0 0 B17_0 K n (fill f17_0_sh [.i x1, .i x2, .l x3, .l x4, .l x5, .l x6])) (fun y1 y2 y3 y4 y5 y6 y7 => K (X.normal) (fill f17_0_ex1 [.b y1, .i y2, .i y3, .l y4, .l y5, .l y6, .l y7])) x1 x2 x3 x4 x5 x6 := by kernel_rfl
theorem f17_0_lp_eq {R : Type} (N : Nat) (K : X → AS → Option R) : ∀ (n : Nat) (x1 : Int) (x2 : Int) (x3 : List Int) (x4 : List Int) (x5 : List Int) (x6 : List Int), roundsOf (E17 N) N17_0 0 B17_0 K n (fill f17_0_sh [.i x1, .i x2, .l x3, .l x4, .l x5, .l x6]) = f17_0_lp N (fun y1 y2 y3 y4 y5 y6 y7 => K (X.normal) (fill f17_0_ex1 [.b y1, .i y2, .i y3, .l y4, .l y5, .l y6, .l y7])) n x1 x2 x3 x4 x5 x6
  | 0, _, _, _, _, _, _ => rfl
  | n + 1, x1, x2, x3, x4, x5, x6 => by
    rw [f17_0_st_eq, f17_0_lp, show (fun x1 x2 x3 x4 x5 x6 => roundsOf (E17 N) N17_0 0 B17_0 K n (fill f17_0_sh [.i x1, .i x2, .l x3, .l x4, .l x5, .l x6])) = f17_0_lp N (fun y1 y2 y3 y4 y5 y6 y7 => K (X.normal) (fill f17_0_ex1 [.b y1, .i y2, .i y3, .l y4, .l y5, .l y6, .l y7])) n from by funext x1 x2 x3 x4 x5 x6; exact f17_0_lp_eq N K n x1 x2 x3 x4 x5 x6]
theorem f17_0_ok (N : Nat) (hlp : LoopsOk Try.prog (E17 N).lp B17_0) (hΓ : CtxOk Try.prog (E17 N).Γ) : LoopOk Try.prog (mkL N17_0 f17_0_sh (f17_0_F N)) 0 B17_0 := by
  refine loopOk_of (E := E17 N) thOk hΓ mixed hlp ?_
  intro R ls K r h
  unfold f17_0_F at h
  split at h
  · exact ⟨N, by rw [f17_0_lp_eq]; exact h⟩
  · cases h

theorem lok17_2 (N : Nat) (hΓ : CtxOk Try.prog Q17) : LoopOk Try.prog (mkL N17_2 f17_2_sh (f17_2_F N)) 2 B17_2 := f17_2_ok N (loopsOk_of (l := []) (by kernel_rfl) trivial) hΓ
theorem lok17_0 (N : Nat) (hΓ : CtxOk Try.prog Q17) : LoopOk Try.prog (mkL N17_0 f17_0_sh (f17_0_F N)) 0 B17_0 := f17_0_ok N (loopsOk_of (l := [(2, B17_2)]) (by kernel_rfl) (allOk_cons (L := mkL N17_2 f17_2_sh (f17_2_F N)) rfl (lok17_2 N hΓ) trivial)) hΓ
theorem f17_contract (N : Nat) (hΓ : CtxOk Try.prog Q17) : Contract Try.prog 17 { sig := S17, impl := fun _ ds k => call (E17 N) S17 71 B17 R17 ds k } :=
  call_contract (E := E17 N) thOk hΓ mixed ok17.look ok17.body ok17.n ok17.rv ok17.name rfl (by decide) (loopsOk_of (l := [(0, B17_0), (2, B17_2)]) (by kernel_rfl) (allOk_cons (L := mkL N17_0 f17_0_sh (f17_0_F N)) rfl (lok17_0 N hΓ) (allOk_cons (L := mkL N17_2 f17_2_sh (f17_2_F N)) rfl (lok17_2 N hΓ) trivial)))
theorem f17_raw_eq {R : Type} (N : Nat) (key : List Int) (ctr : Int) (nonce : List Int) (b : List Int) (k : List DV → Option R) : call (E17 N) S17 71 B17 R17 [.v (.one (.ints .u8 32 key)), .v (.one (.int .u32 ctr)), .v (.one (.ints .u8 12 nonce)), .lst .u8 1 b] k = f17_raw N key ctr nonce b k := by kernel_rfl
end Go.Proofs.Ytiaddnmloonhgaa

/- The document's stream is the program's. -/
namespace Go.Proofs.Ytiaddnmloonhgaa
open Go Go.Eng
set_option maxRecDepth 100000

theorem maskL_len (f : Nat → Int) (b : List Int) : (maskL f b).length = b.length := by simp [maskL]
theorem maskL_get (f : Nat → Int) (b : List Int) {n : Nat} (h : n < b.length) : (maskL f b)[n]? = some (xorI .u8 (b.getD n 0) (f n)) := by
  unfold maskL
  rw [List.getElem?_mapIdx, List.getD_eq_getElem?_getD, List.getElem?_eq_getElem h]; rfl
theorem maskL_take (f : Nat → Int) (b : List Int) {n : Nat} (h : n < b.length) : (maskL f b).take (n + 1) = (maskL f b).take n ++ [xorI .u8 (b.getD n 0) (f n)] := by
  rw [List.take_add_one, maskL_get f b h]; rfl
theorem one_app {n : Nat} (h : n ≤ 1099511627776) : (((2 * (n + 1) + 192) * 1).ble big48 && (n + 1).ble big48) = true := by
  rw [show ((2 * (n + 1) + 192) * 1).ble big48 = true from Nat.ble_eq_true_of_le (by unfold big48; omega), show (n + 1).ble big48 = true from Nat.ble_eq_true_of_le (by unfold big48; omega)]; rfl

theorem in_loop17 {R : Type} {N : Nat} (k1 : Bool → Int → Int → Int → List Int → List Int → List Int → List Int → List Int → Option R) (x1 : Int) {key nonce b : List Int} {c j E : Nat} (hb : b.length ≤ lim) (hE : E = min (64 * j + 64) b.length) :
    ∀ (m n : Nat), n + m = E → 64 * j ≤ n → ∀ fuel, m < fuel →
      f17_2_lp N k1 fuel x1 ((64 * j : Nat) : Int) (n : Int) ((maskL (maskAt key c nonce) b).take n) b key nonce (blockL key ((c + j : Nat) : Int) nonce) =
        k1 false x1 ((64 * j : Nat) : Int) (E : Int) ((maskL (maskAt key c nonce) b).take E) b key nonce (blockL key ((c + j : Nat) : Int) nonce) := by
  have hb' : b.length ≤ 1099511627776 := hb
  intro m
  induction m with
  | zero =>
    intro n h hj fuel hf
    obtain ⟨f, rfl⟩ : ∃ f, fuel = f + 1 := ⟨fuel - 1, by omega⟩
    have : n = E := by omega
    subst this
    show f17_2_st N (f17_2_lp N k1 f) k1 _ _ _ _ _ _ _ _ = _
    unfold f17_2_st
    have e0 : IntKind.i64.wrap (((64 * j : Nat) : Int) + 64) = ((64 * j + 64 : Nat) : Int) := wrapI (by omega) (by omega)
    dsimp only
    rw [e0]
    by_cases h1 : n < 64 * j + 64
    · rw [decide_eq_true (show (n : Int) < ((64 * j + 64 : Nat) : Int) by omega), cond_true, cond_true]
      rw [decide_eq_false (show ¬ ((n : Int) < nI (rowLen 1 b)) by show ¬ ((n : Int) < (b.length : Int)); omega)]
      rfl
    · rw [decide_eq_false (show ¬ ((n : Int) < ((64 * j + 64 : Nat) : Int)) by omega), cond_false]
  | succ m ih =>
    intro n h hj fuel hf
    obtain ⟨f, rfl⟩ : ∃ f, fuel = f + 1 := ⟨fuel - 1, by omega⟩
    show f17_2_st N (f17_2_lp N k1 f) k1 _ _ _ _ _ _ _ _ = _
    unfold f17_2_st
    have hn : n < b.length := by omega
    have e0 : IntKind.i64.wrap (((64 * j : Nat) : Int) + 64) = ((64 * j + 64 : Nat) : Int) := wrapI (by omega) (by omega)
    have e1 : IntKind.i64.wrap ((n : Int) - ((64 * j : Nat) : Int)) = ((n % 64 : Nat) : Int) := wrapI (by omega) (by omega)
    have e2 : IntKind.i64.wrap ((n : Int) + 1) = ((n + 1 : Nat) : Int) := wrapI (by omega) (by omega)
    dsimp only
    rw [e0, e1, e2, decide_eq_true (show (n : Int) < ((64 * j + 64 : Nat) : Int) by omega), decide_eq_true (show (n : Int) < nI (rowLen 1 b) by show (n : Int) < (b.length : Int); omega), decide_eq_true (show (0 : Int) ≤ (n : Int) by omega), decide_eq_true (show (0 : Int) ≤ ((n % 64 : Nat) : Int) by omega), decide_eq_true (show ((n % 64 : Nat) : Int) < 64 by omega)]
    simp only [Bool.and_self, cond_true, mulE_one, Int.toNat_natCast]
    rw [one_set, show rowLen 1 ((maskL (maskAt key c nonce) b).take n) + rowLen 1 [xorI .u8 (b.getD n 0) ((blockL key ((c + j : Nat) : Int) nonce).getD (n % 64) 0)] = n + 1 from by
      show ((maskL (maskAt key c nonce) b).take n).length + 1 = n + 1
      rw [List.length_take, maskL_len]; omega]
    rw [one_app (by omega), cond_true]
    have hf2 : (blockL key ((c + j : Nat) : Int) nonce).getD (n % 64) 0 = maskAt key c nonce n := by
      unfold maskAt
      rw [show n / 64 = j by omega]
    rw [hf2, ← maskL_take _ _ hn]
    exact ih (n + 1) (by omega) (by omega) f (by omega)

theorem out_loop17 {R : Type} {N : Nat} (k1 : Bool → Int → Int → List Int → List Int → List Int → List Int → Option R) {key nonce b : List Int} {c : Nat} (hb : b.length ≤ lim) (hN : 64 < N) (hk : okN 32 key = true) (hn : okN 12 nonce = true) (hc : c + (b.length + 63) / 64 ≤ 4294967296) :
    ∀ (m j : Nat), b.length ≤ 64 * (j + m) → ∀ fuel, m < fuel → ∃ e : Int, f17_0_lp N k1 fuel (c : Int) ((64 * j : Nat) : Int) ((maskL (maskAt key c nonce) b).take (64 * j)) b key nonce = k1 false (c : Int) e (maskL (maskAt key c nonce) b) b key nonce := by
  have hb' : b.length ≤ 1099511627776 := hb
  have done : ∀ (j fuel : Nat), b.length ≤ 64 * j → 0 < fuel → ∃ e : Int, f17_0_lp N k1 fuel (c : Int) ((64 * j : Nat) : Int) ((maskL (maskAt key c nonce) b).take (64 * j)) b key nonce = k1 false (c : Int) e (maskL (maskAt key c nonce) b) b key nonce := by
    intro j fuel h hf
    obtain ⟨f, rfl⟩ : ∃ f, fuel = f + 1 := ⟨fuel - 1, by omega⟩
    refine ⟨((64 * j : Nat) : Int), ?_⟩
    show f17_0_st N (f17_0_lp N k1 f) k1 _ _ _ _ _ _ = _
    unfold f17_0_st
    rw [decide_eq_false (show ¬ (((64 * j : Nat) : Int) < nI (rowLen 1 b)) by show ¬ (((64 * j : Nat) : Int) < (b.length : Int)); omega), cond_false, List.take_of_length_le (by rw [maskL_len]; omega)]
  intro m
  induction m with
  | zero => intro j h fuel hf; exact done j fuel (by omega) hf
  | succ m ih =>
    intro j h fuel hf
    by_cases hl : b.length ≤ 64 * j
    · exact done j fuel hl (by omega)
    · obtain ⟨f, rfl⟩ : ∃ f, fuel = f + 1 := ⟨fuel - 1, by omega⟩
      obtain ⟨e, he⟩ := ih (j + 1) (by omega) f (by omega)
      refine ⟨e, ?_⟩
      rw [← he]
      show f17_0_st N (f17_0_lp N k1 f) k1 _ _ _ _ _ _ = _
      unfold f17_0_st
      have e0 : IntKind.i64.wrap ((((64 * j : Nat) : Int)).tdiv 64) = ((j : Nat) : Int) := by
        rw [show (((64 * j : Nat) : Int)).tdiv 64 = ((64 * j / 64 : Nat) : Int) from rfl]; exact wrapI (by omega) (by omega)
      have e1 : IntKind.u32.wrap ((j : Nat) : Int) = ((j : Nat) : Int) := w32 (by omega)
      have e2 : IntKind.u32.wrap ((c : Int) + ((j : Nat) : Int)) = ((c + j : Nat) : Int) := by
        rw [show (c : Int) + ((j : Nat) : Int) = ((c + j : Nat) : Int) by omega]; exact w32 (by omega)
      rw [decide_eq_true (show ((64 * j : Nat) : Int) < nI (rowLen 1 b) by show ((64 * j : Nat) : Int) < (b.length : Int); omega), cond_true, hk, hn]
      dsimp only
      rw [e0, e1, e2]
      simp only [Bool.and_self, cond_true]
      refine (in_loop17 (N := N) _ (c : Int) hb (E := min (64 * j + 64) b.length) rfl (min (64 * j + 64) b.length - 64 * j) (64 * j) (by omega) (Nat.le_refl _) N (by omega)).trans ?_
      have e3 : IntKind.i64.wrap (((64 * j : Nat) : Int) + 64) = ((64 * (j + 1) : Nat) : Int) := wrapI (by omega) (by omega)
      rw [e3]
      have e4 : (maskL (maskAt key c nonce) b).take (min (64 * j + 64) b.length) = (maskL (maskAt key c nonce) b).take (64 * (j + 1)) := by
        by_cases h2 : 64 * j + 64 ≤ b.length
        · rw [Nat.min_eq_left h2, show 64 * (j + 1) = 64 * j + 64 by omega]
        · rw [Nat.min_eq_right (by omega), List.take_of_length_le (by rw [maskL_len]; omega), List.take_of_length_le (by rw [maskL_len]; omega)]
      rw [e4]

theorem f17_spec {R : Type} {key nonce b : List Int} {c : Nat} (hb : b.length ≤ lim) (hk : okN 32 key = true) (hn : okN 12 nonce = true) (hc : c < 4294967296) (k : List DV → Option R) :
    f17_raw (b.length + 70) key (c : Int) nonce b k = cond (tooFar c b.length) (k [.lst .u8 1 [], .v (.one (.int .i64 122))]) (k [.lst .u8 1 (streamL key c nonce b), .v (.one (.int .i64 0))]) := by
  have hb' : b.length ≤ 1099511627776 := hb
  unfold f17_raw
  have e0 : IntKind.i64.wrap (nI (rowLen 1 b) + 63) = ((b.length + 63 : Nat) : Int) := wrapI (show ((b.length : Nat) : Int) + 63 = _ by omega) (by omega)
  have e1 : IntKind.u64.wrap ((b.length + 63 : Nat) : Int) = ((b.length + 63 : Nat) : Int) := w64 (by omega)
  have e2 : IntKind.u64.wrap ((((b.length + 63 : Nat) : Int)).tdiv 64) = (((b.length + 63) / 64 : Nat) : Int) := by
    rw [show (((b.length + 63 : Nat) : Int)).tdiv 64 = (((b.length + 63) / 64 : Nat) : Int) from rfl]; exact w64 (by omega)
  have e3 : IntKind.u64.wrap (c : Int) = (c : Int) := w64 (by omega)
  have e4 : IntKind.u64.wrap ((c : Int) + (((b.length + 63) / 64 : Nat) : Int)) = ((c + (b.length + 63) / 64 : Nat) : Int) := by
    rw [show (c : Int) + (((b.length + 63) / 64 : Nat) : Int) = ((c + (b.length + 63) / 64 : Nat) : Int) by omega]; exact w64 (by omega)
  dsimp only
  rw [e0, e1, e2, e3, e4]
  have run : tooFar c b.length = false → f17_0_lp (b.length + 70) (fun w7_1 w7_2 w7_3 w7_4 w7_5 w7_6 w7_7 => k [DV.lst IntKind.u8 1 w7_4, DV.v (SV.one (At.int IntKind.i64 0))]) (b.length + 70) (c : Int) 0 [] b key nonce = k [.lst .u8 1 (streamL key c nonce b), .v (.one (.int .i64 0))] := by
    intro ht
    unfold tooFar at ht
    have ht := of_decide_eq_false ht
    obtain ⟨e, he⟩ := out_loop17 (N := b.length + 70) (fun w7_1 w7_2 w7_3 w7_4 w7_5 w7_6 w7_7 => k [DV.lst IntKind.u8 1 w7_4, DV.v (SV.one (At.int IntKind.i64 0))]) (c := c) hb (by omega) hk hn (by omega) b.length 0 (by omega) (b.length + 70) (by omega)
    exact he
  by_cases h0 : (b.length + 63) / 64 = 0
  · have ht : tooFar c b.length = false := by unfold tooFar; rw [decide_eq_false]; omega
    rw [decide_eq_false (show ¬ ((((b.length + 63) / 64 : Nat) : Int) > 0) by omega), cond_false, ht, cond_false]
    exact run ht
  · rw [decide_eq_true (show (((b.length + 63) / 64 : Nat) : Int) > 0 by omega), cond_true, cond_true]
    have e5 : IntKind.u64.wrap (((c + (b.length + 63) / 64 : Nat) : Int) - 1) = ((c + (b.length + 63) / 64 - 1 : Nat) : Int) := by
      rw [show ((c + (b.length + 63) / 64 : Nat) : Int) - 1 = ((c + (b.length + 63) / 64 - 1 : Nat) : Int) by omega]; exact w64 (by omega)
    rw [e5]
    have e6 : decide (((c + (b.length + 63) / 64 - 1 : Nat) : Int) > 4294967295) = tooFar c b.length := by
      unfold tooFar
      exact decide_eq_decide.2 (by omega)
    rw [e6]
    cases ht : tooFar c b.length with
    | true => rfl
    | false => exact run ht

def I17 : (R : Type) → List DV → (List DV → Option R) → Option R := fun _ ds k => match ds with
  | [.v (.one (.ints .u8 32 key)), .v (.one (.int .u32 ctr)), .v (.one (.ints .u8 12 nonce)), .lst .u8 1 b] =>
    cond ((okN 32 key && okN 12 nonce) && (decide (0 ≤ ctr) && (decide (ctr < 4294967296) && Nat.ble b.length lim)))
      (cond (tooFar ctr.toNat b.length) (k [.lst .u8 1 [], .v (.one (.int .i64 122))]) (k [.lst .u8 1 (streamL key ctr.toNat nonce b), .v (.one (.int .i64 0))])) none
  | _ => none
theorem c17 : Contract Try.prog 17 { sig := S17, impl := I17 } := by
  refine Contract.refine fun R ds k r h => ?_
  unfold I17 at h
  split at h
  · rename_i key ctr nonce b
    refine ⟨_, f17_contract (b.length + 70) Q17_ok, ?_⟩
    cases hc : ((okN 32 key && okN 12 nonce) && (decide (0 ≤ ctr) && (decide (ctr < 4294967296) && Nat.ble b.length lim))) with
    | true =>
      rw [hc] at h
      simp only [Bool.and_eq_true, decide_eq_true_eq] at hc
      obtain ⟨⟨h1, h2⟩, h3, h4, h5⟩ := hc
      obtain ⟨c, rfl⟩ : ∃ c : Nat, ctr = c := ⟨ctr.toNat, by omega⟩
      rw [f17_raw_eq, f17_spec (Nat.le_of_ble_eq_true h5) h1 h2 (by omega)]
      exact h
    | false => rw [hc] at h; cases h
  · exact (Option.some_ne_none _ h.symm).elim
end Go.Proofs.Ytiaddnmloonhgaa

/- Contexts with Given and the document's streams. -/
namespace Go.Proofs.Ytiaddnmloonhgaa
open Go Go.Eng
set_option maxRecDepth 100000
/-- no function, but a word to the engine: an 'and' is followed where it says yes -/
def noFI : FI := { sig := { ps := [], rs := [] }, impl := fun _ _ _ => none }
theorem ctxOk_prune {Γ : Ctx} (h : CtxOk Try.prog Γ) : CtxOk Try.prog ((999999, noFI) :: Γ) := by
  intro g fi hg
  unfold findF at hg
  split at hg
  · injection hg with hg; subst hg
    refine ⟨fun R ds k r hr => ?_, rfl⟩
    cases (show (none : Option R) = some r from hr)
  · exact h g fi hg
noncomputable def QS0 : Ctx := (15, G15) :: (22, G22) :: (17, { sig := S17, impl := I17 }) :: (19, { sig := S19, impl := I19 }) :: (21, { sig := S21, impl := I21 }) :: G6
theorem QS0_ok : CtxOk Try.prog QS0 := ctxOk_cons ok15 rfl cG15 (ctxOk_cons ok22 rfl cG22 (ctxOk_cons ok17 rfl c17 (ctxOk_cons ok19 rfl c19 (ctxOk_cons ok21 rfl c21 G6_ok))))
noncomputable def QS : Ctx := (999999, noFI) :: QS0
theorem QS_ok : CtxOk Try.prog QS := ctxOk_prune QS0_ok
def start3s (n : Nat) (key : List Int) (ctr : Int) (nonce b : List Int) : AS :=
  { n := n, lo := 0, tmps := [(0, .s (.one (.ints .u8 32 key))), (1, .s (.one (.int .u32 ctr))), (2, .s (.one (.ints .u8 12 nonce))), (3, .s (.one (.own 3)))], items := [(3, .view .u8 1 b)] }
end Go.Proofs.Ytiaddnmloonhgaa

/- What rime/rimelaw12.SealBlocks comes to. MADE BY PROGRAM (wip/tools/mkfn.py, EngGen.lean). -/
namespace Go.Proofs.Ytiaddnmloonhgaa
open Go Go.Eng
set_option maxRecDepth 100000
set_option linter.unusedVariables false

noncomputable def f3_raw {R : Type} (N : Nat) (key : List Int) (ctr : Int) (nonce : List Int) (b : List Int) (k : List DV → Option R) : Option R :=
 let v0 : Int := IntKind.i64.wrap (nI (rowLen 1 b) + 3);
bif Decidable.decide (0 ≤ v0) && (Decidable.decide (v0 ≤ v0) && (Decidable.decide (v0 ≤ 281474976710656) && Decidable.decide (v0 * 1 ≤ 281474976710656))) then
 bif Decidable.decide (0 = 0) && (zerosOf (mulE v0.toNat 1)).length.ble limG then
 bif Decidable.decide (0 = 0) && (b.length.ble limG && b.length.ble (marksG (zerosOf (mulE v0.toNat 1)).length).length) then
 bif (overG b (marksG (zerosOf (mulE v0.toNat 1)).length)).length.ble lim then
 bif hiOk (Option.some (nI (rowLen 1 b))) (rowLen 1 (overG b (marksG (zerosOf (mulE v0.toNat 1)).length))) then
 let v1 : List Int := Go.Eng.sub (overG b (marksG (zerosOf (mulE v0.toNat 1)).length)) (plusO Off.z 1 Option.none) (mulE (Go.Eng.subN (hiNat (Option.some (nI (rowLen 1 b))) (rowLen 1 (overG b (marksG (zerosOf (mulE v0.toNat 1)).length)))) Option.none) 1);
 bif Decidable.decide (0 ≤ ctr) && (Decidable.decide (ctr < 4294967296) && v1.length.ble lim) then
 bif tooFar ctr.toNat v1.length then
 bif okN 32 key && okN 12 nonce && (Decidable.decide (0 ≤ ctr) && (Decidable.decide (ctr < 4294967296) && b.length.ble lim)) then
 bif tooFar ctr.toNat b.length then
 bif okN 32 key && okN 12 nonce then
 bif Decidable.decide (blockL key ctr nonce = blockL key ctr nonce) then
 bif (overG b (marksG (zerosOf (mulE v0.toNat 1)).length)).length.ble lim then
 bif !Decidable.decide (overG b (marksG (zerosOf (mulE v0.toNat 1)).length) = overG b (marksG (zerosOf (mulE v0.toNat 1)).length)) then Option.none
 else
 let v2 : Bool := bif Bool.true then Bool.true else Bool.false;
 k [DV.v (SV.one (At.bool v2))]
 else Option.none
 else Option.none
 else Option.none
 else
 bif okN 32 key && okN 12 nonce then
 bif Decidable.decide (blockL key ctr nonce = blockL key ctr nonce) then
 let v3 : Bool := bif Bool.true then Decidable.decide ([] = streamL key ctr.toNat nonce b) else Bool.false;
 bif v3 then Option.none else Option.none
 else Option.none
 else Option.none
 else Option.none
 else
 bif okN 32 key && okN 12 nonce && (Decidable.decide (0 ≤ ctr) && (Decidable.decide (ctr < 4294967296) && b.length.ble lim)) then
 bif tooFar ctr.toNat b.length then
 bif okN 32 key && okN 12 nonce then
 bif Decidable.decide (blockL key ctr nonce = blockL key ctr nonce) then
 bif (streamL key ctr.toNat nonce v1).length.ble lim then
 let v4 : Bool := bif Bool.true then Decidable.decide (streamL key ctr.toNat nonce v1 = []) else Bool.false;
 bif v4 then Option.none else Option.none
 else Option.none
 else Option.none
 else Option.none
 else
 bif okN 32 key && okN 12 nonce then
 bif Decidable.decide (blockL key ctr nonce = blockL key ctr nonce) then
 bif (streamL key ctr.toNat nonce v1).length.ble lim then
 let v5 : Bool := bif Bool.true then Decidable.decide (streamL key ctr.toNat nonce v1 = streamL key ctr.toNat nonce b) else Bool.false;
 bif v5 then
 bif (overG b (marksG (zerosOf (mulE v0.toNat 1)).length)).length.ble lim then
 bif !Decidable.decide (overG b (marksG (zerosOf (mulE v0.toNat 1)).length) = overG b (marksG (zerosOf (mulE v0.toNat 1)).length)) then Option.none
 else
 let v6 : Bool := bif Bool.true then Bool.true else Bool.false;
 k [DV.v (SV.one (At.bool v6))]
 else Option.none
 else Option.none
 else Option.none
 else Option.none
 else Option.none
 else Option.none
 else Option.none
 else Option.none
 else Option.none
 else Option.none
 else Option.none
else Option.none


noncomputable def E3 (N : Nat) : Env := { Θ := Th2, Γ := QS, K := K3, ν := N3, fuel := 0, lp := [] }


theorem f3_loops (N : Nat) (hΓ : CtxOk Try.prog QS) : LoopsOk Try.prog (E3 N).lp B3 := loopsOk_of (l := []) (by kernel_rfl) trivial
theorem f3_raw_eq {R : Type} (N : Nat) (key : List Int) (ctr : Int) (nonce : List Int) (b : List Int) (k : List DV → Option R) : exec (E3 N) B3 (start3s 59 key ctr nonce b) (retK Th2 { ps := [], rs := [.val] } [] R3 k) = f3_raw N key ctr nonce b k := by kernel_rfl
end Go.Proofs.Ytiaddnmloonhgaa

/- SealBlocks: what is compared is the same. -/
namespace Go.Proofs.Ytiaddnmloonhgaa
open Go Go.Eng
set_option maxRecDepth 100000
theorem lim_ble {n : Nat} (h : n ≤ 1048700) : n.ble lim = true := Nat.ble_eq_true_of_le (by unfold lim; omega)
theorem f3_true (N : Nat) {key nonce b : List Int} {ctr : Int} (hk : okN 32 key = true) (hn : okN 12 nonce = true) (h0 : 0 ≤ ctr) (h1 : ctr < 4294967296) (hl : b.length ≤ 1048576) : f3_raw N key ctr nonce b some = some [.v (.one (.bool true))] := by
  unfold f3_raw
  dsimp only
  have hs : (streamL key ctr.toNat nonce b).length.ble lim = true := lim_ble (by unfold streamL; rw [maskL_len]; omega)
  simp only [given_wrap hl, given_make hl, given_len, marksG_length, overG_given, given_hi, given_sub, givenG_length, given_lim (show b.length ≤ 1048579 by omega), given_lim (show b.length + 3 ≤ 1048579 by omega), lim_ble (show b.length ≤ 1048700 by omega), lim_ble (show b.length + 3 ≤ 1048700 by omega),
    hk, hn, hs, decide_eq_true h0, decide_eq_true h1, cond_true, cond_false, Bool.and_self, decide_true, Bool.true_and, beq_self_eq_true, Bool.not_true, show b.length.ble (b.length + 3) = true from Nat.ble_eq_true_of_le (by omega)]
  cases tooFar ctr.toNat b.length <;> rfl
end Go.Proofs.Ytiaddnmloonhgaa

/- SealBlocks: for any key, counter, nonce and bytes whose data stay within 1,048,576: the stream and the block are the document's, and the bytes that were handed in stand as they stood. -/
namespace Go.Proofs.Ytiaddnmloonhgaa
open Go Go.Eng Go.ChangeShapes Go.WideShapes Go.RowKit Go.ChangeAt
set_option maxRecDepth 100000

theorem contract3 (H : Type) (enc : TypeId × Value → H) (W : World) (base : Nat) (args : Array Value) (ds gs : List (DataW H)) (before : List MemPlace)
    (hval : ∀ (j : Nat) t v, Try.f3.params[j]? = some t → args[j]? = some v → Value.okWide Try.prog W .any base t v)
    (hW : DataW.Whole enc Try.prog Try.f3.params.toList Rows.sealBlocksSpec.vars false W args.toList ds gs before) (hk : Rows.uptoSmall H (ds ++ gs) = true) :
    Calls Try.prog 3 args W fun e W' => ∃ v, e = .returned v ∧ Rows.sealBlocksSpec.post enc Try.prog Try.f3 false true false false W args v W' := by
  have hW' := hW
  obtain ⟨p, q, hA, hV, rfl, hfz, hnd⟩ := hW
  obtain ⟨rfl, rfl⟩ := trodVars_none hV
  rw [Try.params3] at hA hval
  obtain ⟨v0, vs0, d0, ds0, p0, q0, hargs, rfl, rfl, h0, r0⟩ := trodAll_cons hA
  obtain ⟨v1, vs1, d1, ds1, p1, q1, rfl, rfl, rfl, h1, r1⟩ := trodAll_cons r0
  obtain ⟨v2, vs2, d2, ds2, p2, q2, rfl, rfl, rfl, h2, r2⟩ := trodAll_cons r1
  obtain ⟨v3, vs3, d3, ds3, p3, q3, rfl, rfl, rfl, h3, r3⟩ := trodAll_cons r2
  obtain ⟨rfl, rfl, rfl⟩ := trodAll_nil r3
  obtain rfl : args = #[v0, v1, v2, v3] := by cases args; simp_all
  have hb := bulk_bound hk
  simp only [List.append_nil, Rows.uptoBulkAll, Nat.add_zero] at hb
  obtain ⟨x0, rfl, l0, w0⟩ := open_arr Try.underlying23 Try.underlying5 (by kernel_rfl) (by kernel_rfl) (hval 0 23 v0 rfl rfl) h0
  obtain ⟨x1, rfl, rfl, rfl, w1⟩ := open_int Try.underlying24 (hval 1 24 v1 rfl rfl) h1
  obtain ⟨x2, rfl, l2, w2⟩ := open_arr Try.underlying26 Try.underlying5 (by kernel_rfl) (by kernel_rfl) (hval 2 26 v2 rfl rfl) h2
  obtain ⟨A3, n3, c3, rfl⟩ := okWide_slice Try.underlying27 (hval 3 27 v3 rfl rfl)
  obtain ⟨f3, h3⟩ := h3
  obtain ⟨x3, len3, cap3, Ad3, loc3, o31, o32, l3, o34, o35, o36, w3, o38⟩ := open_view (k := .u8) (es := 1) Try.underlying27 (by omega) (elB H enc) h3
  have b3 : len3 ≤ Rows.uptoBulk d3 := bulk_slice o38
  have hs : Sim W ⟨fun _ => False, locOf [(3, loc3)], fun _ => 0, (start3s 59 x0 x1 x2 x3).S⟩ (⟨locOf [(3, loc3)], fun _ => 0⟩ : Rho) (start3s 59 x0 x1 x2 x3) { tmps := #[.agg (x0.map (Value.int .u8)).toArray, .int .u32 x1, .agg (x2.map (Value.int .u8)).toArray, .slice A3 n3 c3] ++ Array.replicate (59 - 4) undef, defers := [] } W := by
    refine sim_start (s0 := start3s 59 x0 x1 x2 x3) (ρ := ⟨locOf [(3, loc3)], fun _ => 0⟩) (args := #[.agg (x0.map (Value.int .u8)).toArray, .int .u32 x1, .agg (x2.map (Value.int .u8)).toArray, .slice A3 n3 c3]) (n := 59) (avs := [.s (.one (.ints .u8 32 x0)), .s (.one (.int .u32 x1)), .s (.one (.ints .u8 12 x2)), .s (.one (.own 3))]) rfl (by simp) rfl ?_ ?_ ?_ ⟨⟨rfl, l0⟩, rfl, ⟨rfl, l2⟩, (show RelAt ⟨locOf [(3, loc3)], fun _ => 0⟩ (start3s 59 x0 x1 x2 x3).S (.own 3) [Value.slice A3 n3 c3] from rel_own rfl o31 o32 l3 o35 (by omega) rfl), trivial⟩
    · simp [start3s, Nodup', putNames]
    · intro j it hi
      simp only [start3s, AS.I, findI_cons] at hi
      split at hi
      · rename_i hj; subst hj; injection hi with hi; subst hi
        exact ⟨_, _, _, rfl, by omega, ⟨len3, l3⟩, o34⟩
      ·
        simp [findI] at hi
    · intro j p hp
      simp only [locOf] at hp
      split at hp
      · exact o36 p hp
      ·
        cases hp
  have he := f3_true 0 (b := x3) (okN_row l0 w0) (okN_row l2 w2) (u32_row w1).1 (u32_row w1).2 (by omega)
  rw [← f3_raw_eq] at he
  refine (law_calls thOk2 QS_ok mixed ok3 (f3_loops 0 QS_ok) (fun _ => id) hs he).mono fun e W' ⟨h1, h2, h3, h4⟩ => ?_
  exact ⟨_, h1, post_of_law laidOut (by kernel_rfl) Try.underlying4 rfl (by rw [Try.params3]; intro t ht; simp only [List.mem_cons, List.not_mem_nil, or_false] at ht; rcases ht with rfl | rfl | rfl | rfl <;> exact ⟨by kernel_rfl, by decide +kernel⟩) ⟨rfl, rfl, rfl⟩ hW' h2 h3 h4⟩

theorem lifted3 (os : Os) (started : os.Started) (H : Type) (enc : TypeId × Value → H) (F : Stop.Interp) :
    ReturnsInHanded {} Try.checked os 3 .any ((Rows.OpenSpec.upto Rows.sealBlocksSpec).pre6 enc Try.prog Try.f3 Rows.sealBlocksUptoRow.domain false) (((Rows.OpenSpec.upto Rows.sealBlocksSpec).at F).post enc Try.prog Try.f3 false true false false) := by
  refine returnsInHanded_of_cond (C := Try.checked) (s := Rows.OpenSpec.upto Rows.sealBlocksSpec) (k := Rows.uptoSmall) rfl own0 started (by kernel_rfl) Try.func3
    (OpenSpec.witness (enc := enc) (C := Try.checked) (s := Rows.OpenSpec.upto Rows.sealBlocksSpec) (k := Rows.uptoSmall) rfl false ⟨#[], #[.agg (Array.mk (List.replicate 32 (Value.int .u8 0))), .int .u32 0, .agg (Array.mk (List.replicate 12 (Value.int .u8 0))), .slice none 0 0], []⟩ 8 (by kernel_rfl) (by kernel_rfl) (by kernel_rfl)
      (x := ([.agg (List.replicate 32 (.lit (.int .u8 0))), .lit (.int .u32 0), .agg (List.replicate 12 (.lit (.int .u8 0))), .nil], [], [])) (by kernel_rfl) rfl (by kernel_rfl)) ?_
  intro W base args ds gs before hval hW _ hk _
  exact contract3 H enc W base args ds gs before hval hW hk

theorem over3 : Rows.sealBlocksUptoRow.holds Try.pinned (Rows.OpenSpec.upto Rows.sealBlocksSpec) :=
  OpenClaim.holds_of_cond 3 Try.f3 rfl rfl rfl rfl rfl rfl rfl ⟨rfl, rfl, rfl, rfl, rfl⟩ rfl rfl rfl rfl rfl (by kernel_rfl) Try.func3 (by kernel_rfl)
    (of_decide_eq_true (by kernel_rfl)) (by unfold Func.isWrapper; first | (rw [if_pos (by decide +kernel)]; kernel_rfl) | (rw [if_neg (by decide +kernel)]; exact ⟨rfl, rfl⟩))
    (fun os started H enc _ F => lifted3 os started H enc F)

theorem sealBlocks_holds : Rows.SealBlocksUptoSaid := over3
end Go.Proofs.Ytiaddnmloonhgaa

#print axioms Go.Proofs.Ytiaddnmloonhgaa.sealBlocks_holds
