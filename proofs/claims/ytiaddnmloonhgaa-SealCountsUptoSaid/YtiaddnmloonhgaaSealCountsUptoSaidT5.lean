/- A part of the proof: SealCounts: for any key, number and texts whose data stay within 1,048,576: the boxes of a sealer have numbers that rise by one, each opens by its number, and behind the last number there is none. -/
import Derived.Test.YtiaddnmloonhgaaSealCountsUptoSaidT4
set_option linter.unusedVariables false
set_option linter.unusedSimpArgs false

/- The document's product. -/
namespace Go.Proofs.Ytiaddnmloonhgaa
open Go Go.Eng
set_option maxRecDepth 100000
set_option linter.unusedVariables false

theorem f65_row {R : Type} (N : Nat) (k1 : Bool → Int → Int → Int → List Int → List Int → List Int → List Int → Option R) (z : List Int) {a b C : List Nat} {i : Nat} (hi : i < 5) (ha : ∀ x ∈ a, x < 4294967296) (hb : b.length = 5) (hbd : ∀ x ∈ b, x < 4294967296) (hC : C.length = 5 - i) :
    ∀ (B A : List Nat) (c j : Nat), A.length = i + j → j + B.length = 5 → (∀ x ∈ B, x < 4294967296) → c < 4294967296 → ∀ fuel, B.length < fuel →
      f65_2_lp N k1 fuel (i : Int) (c : Int) (j : Int) (nats a) (nats b) z (nats (A ++ (B ++ C))) = k1 false (i : Int) ((mac32 (a.getD i 0) B (b.drop j) c).2 : Int) 5 (nats a) (nats b) z (nats (A ++ ((mac32 (a.getD i 0) B (b.drop j) c).1 ++ C))) := by
  intro B
  induction B with
  | nil =>
    intro A c j hA hj _ hc fuel hf
    obtain ⟨f, rfl⟩ : ∃ f, fuel = f + 1 := ⟨fuel - 1, by omega⟩
    have hl : j = 5 := by simpa using hj
    subst hl
    rfl
  | cons u B ih =>
    intro A c j hA hj hB hc fuel hf
    obtain ⟨f, rfl⟩ : ∃ f, fuel = f + 1 := ⟨fuel - 1, by omega⟩
    rw [List.length_cons] at hj hf
    have hu := hB u (.head _)
    have hx := getU_lt ha i
    have hy := getU_lt hbd j
    show f65_2_st N (f65_2_lp N k1 f) k1 _ _ _ _ _ _ _ = _
    unfold f65_2_st
    have e0 : IntKind.i64.wrap ((i : Int) + (j : Int)) = (A.length : Int) := by
      rw [show (i : Int) + (j : Int) = (A.length : Int) by omega]; exact wi64 (by omega)
    have hlen : nI (rowLen 1 (nats (A ++ (u :: B ++ C)))) = 10 := by
      show (((nats (A ++ (u :: B ++ C))).length : Nat) : Int) = 10
      rw [nats_length]; simp only [List.length_append, List.length_cons]; omega
    dsimp only
    rw [e0, hlen, decide_eq_true (show (j : Int) < 5 by omega), decide_eq_true (show (0 : Int) ≤ (A.length : Int) by omega), decide_eq_true (show (A.length : Int) < 10 by omega), decide_eq_true (show (0 : Int) ≤ (i : Int) by omega), decide_eq_true (show (i : Int) < 5 by omega), decide_eq_true (show (0 : Int) ≤ (j : Int) by omega)]
    simp only [Bool.and_self, cond_true]
    rw [show A ++ (u :: B ++ C) = A ++ u :: (B ++ C) from rfl, ngetD, show (nats a).getD (mulE (Int.toNat (i : Int)) 1) 0 = ((a.getD i 0 : Nat) : Int) from nats_getD a i, show (nats b).getD (mulE (Int.toNat (j : Int)) 1) 0 = ((b.getD j 0 : Nat) : Int) from nats_getD b j, drop_split (q := b) (i := j) (by omega)]
    generalize a.getD i 0 = x at *
    generalize b.getD j 0 = y at hy
    have hxy : x * y ≤ 4294967295 * 4294967295 := Nat.mul_le_mul (by omega) (by omega)
    rw [w64 (n := u) (by omega), w64 (n := x) (by omega), w64 (n := y) (by omega)]
    rw [show (c : Int) + (u : Int) = ((c + u : Nat) : Int) from rfl, w64 (n := c + u) (by omega), show (x : Int) * (y : Int) = ((x * y : Nat) : Int) from rfl, w64 (n := x * y) (by omega), show ((c + u : Nat) : Int) + ((x * y : Nat) : Int) = ((c + u + x * y : Nat) : Int) from rfl, w64 (n := c + u + x * y) (by omega)]
    simp only [mac32]
    have hv : c + u + x * y < 18446744073709551616 := by omega
    generalize c + u + x * y = v at hv
    rw [show (32 : Int) = ((32 : Nat) : Int) from rfl, shrN (k := .u64) (m := 32) (by decide), wm32, show (2 : Nat) ^ 32 = 4294967296 from by decide +kernel, nset, show (j : Int) + 1 = ((j + 1 : Nat) : Int) from rfl, wi64 (n := j + 1) (by omega)]
    have := ih (A ++ [v % 4294967296]) (v / 4294967296) (j + 1) (by rw [app_len]; omega) (by omega) (fun y hy => hB y (.tail _ hy)) (by omega) f (by omega)
    rw [← app_cons, ← app_cons] at this
    exact this

theorem f65_rows {R : Type} {N : Nat} (hN : 10 < N) (k1 : Bool → Int → List Int → List Int → List Int → List Int → Option R) (z : List Int) {a b : List Nat} (hal : a.length = 5) (ha : ∀ x ∈ a, x < 4294967296) (hb : b.length = 5) (hbd : ∀ x ∈ b, x < 4294967296) :
    ∀ (m i : Nat) (L : List Nat), i + m = 5 → L.length = i + 5 → (∀ x ∈ L, x < 4294967296) → valB 4294967296 L = valB 4294967296 (a.take i) * valB 4294967296 b → ∀ fuel, m < fuel →
      ∃ L' : List Nat, L'.length = 10 ∧ (∀ x ∈ L', x < 4294967296) ∧ valB 4294967296 L' = valB 4294967296 a * valB 4294967296 b ∧
        f65_0_lp N k1 fuel (i : Int) (nats a) (nats b) z (nats (L ++ List.replicate (5 - i) 0)) = k1 false 5 (nats a) (nats b) z (nats L') := by
  intro m
  induction m with
  | zero =>
    intro i L h hL hLd hv fuel hf
    obtain ⟨f, rfl⟩ : ∃ f, fuel = f + 1 := ⟨fuel - 1, by omega⟩
    have : i = 5 := by omega
    subst this
    refine ⟨L, hL, hLd, ?_, ?_⟩
    · rw [hv, List.take_of_length_le (by omega)]
    · rw [show (5 : Nat) - 5 = 0 from rfl, List.replicate_zero, List.append_nil]; rfl
  | succ m ih =>
    intro i L h hL hLd hv fuel hf
    obtain ⟨f, rfl⟩ : ∃ f, fuel = f + 1 := ⟨fuel - 1, by omega⟩
    have hx := getU_lt ha i
    have hA : (L.take i).length = i := by rw [List.length_take]; omega
    have hB : (L.drop i).length = 5 := by rw [List.length_drop]; omega
    have hBd : ∀ x ∈ L.drop i, x < 4294967296 := fun x hx => hLd x (List.mem_of_mem_drop hx)
    have hsplit : L = L.take i ++ L.drop i := (List.take_append_drop i L).symm
    obtain ⟨r1, r2, r3⟩ := mac32_spec (a.getD i 0) (L.drop i) b 0 (by rw [hB, hb])
    have r4 := mac32_carry (a.getD i 0) hx (L.drop i) b 0 hBd hbd (by decide)
    obtain ⟨L', g1, g2, g3, g4⟩ := ih (i + 1) (L.take i ++ ((mac32 (a.getD i 0) (L.drop i) b 0).1 ++ [(mac32 (a.getD i 0) (L.drop i) b 0).2])) (by omega) (by simp only [List.length_append, hA, r1, hB, List.length_singleton] <;> omega) (by
      intro x hx
      rcases List.mem_append.1 hx with hx | hx
      · exact hLd x (List.mem_of_mem_take hx)
      · rcases List.mem_append.1 hx with hx | hx
        · exact r2 x hx
        · rw [List.mem_singleton] at hx; subst hx; exact r4) (by
      rw [valB_append, valB_append, hA, r1, hB, show valB 4294967296 [(mac32 (a.getD i 0) (L.drop i) b 0).2] = (mac32 (a.getD i 0) (L.drop i) b 0).2 from by simp [valB]]
      rw [hB] at r3
      rw [r3, Nat.add_zero, Nat.mul_add, ← Nat.add_assoc]
      have e1 : valB 4294967296 (L.take i) + 4294967296 ^ i * valB 4294967296 (L.drop i) = valB 4294967296 L := by
        conv => rhs; rw [hsplit]
        rw [valB_append, hA]
      have e2 : valB 4294967296 (a.take (i + 1)) = valB 4294967296 (a.take i) + 4294967296 ^ i * a.getD i 0 := by
        rw [List.take_add_one, List.getElem?_eq_getElem (show i < a.length by omega), Option.toList_some, valB_append, List.length_take, Nat.min_eq_left (by omega), List.getD_eq_getElem?_getD, List.getElem?_eq_getElem (show i < a.length by omega), Option.getD_some]
        simp [valB]
      rw [e1, hv, e2, Nat.add_mul, Nat.mul_assoc]) f (by omega)
    refine ⟨L', g1, g2, g3, ?_⟩
    rw [← g4]
    show f65_0_st N (f65_0_lp N k1 f) k1 _ _ _ _ _ = _
    unfold f65_0_st
    rw [decide_eq_true (show (i : Int) < 5 by omega), cond_true]
    have hl0 : L ++ List.replicate (5 - i) 0 = L.take i ++ (L.drop i ++ List.replicate (5 - i) 0) := by
      conv => lhs; rw [hsplit]
      rw [List.append_assoc]
    rw [hl0]
    refine (f65_row N _ z (by omega) ha hb hbd (List.length_replicate) (L.drop i) (L.take i) 0 0 (by rw [hA]; rfl) (by rw [hB]) hBd (by decide) N (by rw [hB]; omega)).trans ?_
    rw [List.drop_zero]
    generalize hM : mac32 (a.getD i 0) (L.drop i) b 0 = M at *
    obtain ⟨B', c'⟩ := M
    simp only at r1 r4 ⊢
    have e5 : IntKind.i64.wrap ((i : Int) + 5) = ((i + 5 : Nat) : Int) := by
      rw [show (i : Int) + 5 = ((i + 5 : Nat) : Int) by omega]; exact wi64 (by omega)
    have e6 : IntKind.i64.wrap ((i : Int) + 1) = ((i + 1 : Nat) : Int) := by
      rw [show (i : Int) + 1 = ((i + 1 : Nat) : Int) by omega]; exact wi64 (by omega)
    have hlen : nI (rowLen 1 (nats (L.take i ++ (B' ++ List.replicate (5 - i) 0)))) = 10 := by
      show (((nats (L.take i ++ (B' ++ List.replicate (5 - i) 0))).length : Nat) : Int) = 10
      rw [nats_length]; simp only [List.length_append, hA, r1, hB, List.length_replicate]; omega
    rw [e5, e6, hlen, decide_eq_true (show (0 : Int) ≤ ((i + 5 : Nat) : Int) by omega), decide_eq_true (show ((i + 5 : Nat) : Int) < 10 by omega), Bool.and_self, cond_true, w32 (n := c') (by omega)]
    have hrep : List.replicate (5 - i) 0 = 0 :: List.replicate (5 - (i + 1)) 0 := by
      rw [show 5 - i = (5 - (i + 1)) + 1 by omega]; rfl
    have hset : (nats (L.take i ++ (B' ++ List.replicate (5 - i) 0))).set (mulE (Int.toNat ((i + 5 : Nat) : Int)) 1) (c' : Int) = nats (L.take i ++ (B' ++ [c']) ++ List.replicate (5 - (i + 1)) 0) := by
      rw [show mulE (Int.toNat ((i + 5 : Nat) : Int)) 1 = i + 5 from rfl, nats_set, hrep, ← List.append_assoc, set_mid (by rw [List.length_append, hA, r1, hB])]
      simp
    rw [hset]

noncomputable def I65 : (R : Type) → List DV → (List DV → Option R) → Option R := fun _ ds k => match ds with
  | [.v (.one (.ints .u32 5 x)), .v (.one (.ints .u32 5 y))] => bif okU x && okU y then k [.v (.one (.ints .u32 5 (nuU (numU x * numU y % p1305))))] else none
  | _ => none
theorem c65 : Contract Try.prog 65 { sig := S65, impl := I65 } := by
  refine Contract.refine fun R ds k r h => ⟨_, f65_contract 11 Q65_ok, ?_⟩
  unfold I65 at h
  split at h
  · rename_i x y
    rcases hc : okU x && okU y with _ | _
    · rw [hc] at h; cases h
    · rw [hc, cond_true] at h
      rw [Bool.and_eq_true] at hc
      rw [f65_raw_eq]
      obtain ⟨l, rfl, hl, hb⟩ := okU_of hc.1
      obtain ⟨m, rfl, hm, hbm⟩ := okU_of hc.2
      rw [numU_nats, numU_nats] at h
      rw [← h]
      unfold f65_raw
      obtain ⟨L', g1, g2, g3, g4⟩ := f65_rows (N := 11) (by decide) (fun w0_1 w0_2 w0_3 w0_4 w0_5 w0_6 => bif okV w0_6 then k [DV.v (SV.one (At.ints IntKind.u32 5 (nuU (numU w0_6 % p1305))))] else Option.none) (List.replicate 5 0) hl hb hm hbm 5 0 (List.replicate 5 0) rfl rfl (by decide) (by simp [valB]) 11 (by decide)
      refine Eq.trans g4 ?_
      rw [okV_nats (by omega) g2, numU_nats, g3]; rfl
  · cases h
noncomputable def Q25 : Ctx := (64, { sig := S64, impl := I64 }) :: (65, { sig := S65, impl := I65 }) :: (66, { sig := S66, impl := I66 }) :: []
theorem Q25_ok : CtxOk Try.prog Q25 := ctxOk_cons ok64 rfl c64 (ctxOk_cons ok65 rfl c65 (ctxOk_cons ok66 rfl c66 ctxOk_nil))
end Go.Proofs.Ytiaddnmloonhgaa

/- What rime/rimeref12.Mac comes to. MADE BY PROGRAM (wip/tools/mkfn.py, EngGen.lean). -/
namespace Go.Proofs.Ytiaddnmloonhgaa
open Go Go.Eng
set_option maxRecDepth 100000
set_option linter.unusedVariables false

def f25_4_sh : Shp := { n := 83, lo := 2, slots := [(1, .one (.fix (At.own 1))), (2, .one (.fix (At.ptr 2 0 Off.z 32))), (4, .one (.fix (At.ptr 4 0 Off.z 16))), (8, .one (.fix (At.ptr 8 0 Off.z 5))), (9, .one (.fix (At.ptr 9 0 Off.z 5))), (10, .one (.int IntKind.i64))], items := [(1, .view (.one IntKind.u8) 1), (2, .obj [.ints IntKind.u8 32]), (4, .obj [.ints IntKind.u8 16]), (8, .obj [.ints IntKind.u32 5]), (9, .obj [.ints IntKind.u32 5])] }
def f25_4_ex1 : Shp := { n := 83, lo := 2, slots := [(41, .one (.bool)), (1, .one (.fix (At.own 1))), (2, .one (.fix (At.ptr 2 0 Off.z 32))), (4, .one (.fix (At.ptr 4 0 Off.z 16))), (8, .one (.fix (At.ptr 8 0 Off.z 5))), (9, .one (.fix (At.ptr 9 0 Off.z 5))), (10, .one (.int IntKind.i64))], items := [(1, .view (.one IntKind.u8) 1), (2, .obj [.ints IntKind.u8 32]), (4, .obj [.ints IntKind.u8 16]), (8, .obj [.ints IntKind.u32 5]), (9, .obj [.ints IntKind.u32 5])] }
noncomputable def f25_4_st {R : Type} (N : Nat) (self : Int → List Int → List Int → List Int → List Int → List Int → Option R) (k1 : Bool → Int → List Int → List Int → List Int → List Int → List Int → Option R) (x1 : Int) (x2 : List Int) (x3 : List Int) (x4 : List Int) (x5 : List Int) (x6 : List Int) : Option R :=
 bif Decidable.decide (x1 < nI (rowLen 1 x2)) then
 let v0 : Int := IntKind.i64.wrap (x1 + 16);
 bif hiOk (Option.some (minI v0 (nI (rowLen 1 x2)))) (rowLen 1 x2) then
 bif loOk (Option.some x1) (hiInt (Option.some (minI v0 (nI (rowLen 1 x2)))) (rowLen 1 x2)) then
 let v1 : List Int := Go.Eng.sub x2 (plusO Off.z 1 (Option.some x1)) (mulE (Go.Eng.subN (hiNat (Option.some (minI v0 (nI (rowLen 1 x2)))) (rowLen 1 x2)) (Option.some x1)) 1);
 bif (rowLen 1 v1 * 1).ble big48 && (rowLen 1 v1).ble big48 then
 let v2 : List Int := (zerosOf (1 * 1)).set 0 1;
 bif ((2 * (rowLen 1 v1 + rowLen 1 v2) + 192) * 1).ble big48 && (rowLen 1 v1 + rowLen 1 v2).ble big48 then
 let v3 : List Int := v1 ++ v2;
 bif okY 20 v3 then bif okU x6 && (okU (nuU (numY v3)) && Decidable.decide (numU x6 + numU (nuU (numY v3)) < 1461501637330902918203684832716283019655932542976)) then bif okU (nuU (numU x6 + numU (nuU (numY v3)))) && okU x5 then self v0 x2 x3 x4 x5 (nuU (numU (nuU (numU x6 + numU (nuU (numY v3)))) * numU x5 % p1305)) else Option.none else Option.none else Option.none
 else Option.none
 else Option.none
 else Option.none
 else Option.none
else k1 (Decidable.decide (x1 < nI (rowLen 1 x2))) x1 x2 x3 x4 x5 x6
noncomputable def f25_4_lp {R : Type} (N : Nat) (k1 : Bool → Int → List Int → List Int → List Int → List Int → List Int → Option R) : Nat → Int → List Int → List Int → List Int → List Int → List Int → Option R
 | 0, _, _, _, _, _, _ => none
 | n + 1, x1, x2, x3, x4, x5, x6 => f25_4_st N (f25_4_lp N k1 n) k1 x1 x2 x3 x4 x5 x6
noncomputable def f25_4_F (N : Nat) : (R : Type) → List Leaf → (X → AS → Option R) → Option R := fun _ ls K => match ls with
 | [.i x1, .l x2, .l x3, .l x4, .l x5, .l x6] => f25_4_lp N (fun y1 y2 y3 y4 y5 y6 y7 => K (X.normal) (fill f25_4_ex1 [.b y1, .i y2, .l y3, .l y4, .l y5, .l y6, .l y7])) N x1 x2 x3 x4 x5 x6
 | _ => none
noncomputable def f25_raw {R : Type} (N : Nat) (key : List Int) (b : List Int) (k : List DV → Option R) : Option R :=
 let v0 : Int := andI IntKind.u8 (key.getD (mulE (Int.toNat 3) 1) 0) 15;
let v1 : List Int := key.set (mulE (Int.toNat 3) 1) v0;
let v2 : Int := IntKind.i64.wrap (3 + 4);
let v3 : Int := andI IntKind.u8 (v1.getD (mulE v2.toNat 1) 0) 15;
let v4 : List Int := v1.set (mulE v2.toNat 1) v3;
let v5 : Int := IntKind.i64.wrap (v2 + 4);
let v6 : Int := andI IntKind.u8 (v4.getD (mulE v5.toNat 1) 0) 15;
let v7 : List Int := v4.set (mulE v5.toNat 1) v6;
let v8 : Int := IntKind.i64.wrap (v5 + 4);
let v9 : Int := andI IntKind.u8 (v7.getD (mulE v8.toNat 1) 0) 15;
let v10 : List Int := v7.set (mulE v8.toNat 1) v9;
let v11 : Int := andI IntKind.u8 (v10.getD (mulE (Int.toNat 4) 1) 0) 252;
let v12 : List Int := v10.set (mulE (Int.toNat 4) 1) v11;
let v13 : Int := IntKind.i64.wrap (4 + 4);
let v14 : Int := andI IntKind.u8 (v12.getD (mulE v13.toNat 1) 0) 252;
let v15 : List Int := v12.set (mulE v13.toNat 1) v14;
let v16 : Int := IntKind.i64.wrap (v13 + 4);
let v17 : Int := andI IntKind.u8 (v15.getD (mulE v16.toNat 1) 0) 252;
let v18 : List Int := v15.set (mulE v16.toNat 1) v17;
let v19 : List Int := Go.Eng.sub v18 (plusO Off.z 1 Option.none) (mulE (Go.Eng.subN (hiNat (Option.some 16) 32) Option.none) 1);
bif okY 20 v19 then
 f25_4_lp N
 (fun w20_1 w20_2 w20_3 w20_4 w20_5 w20_6 w20_7 =>
 let v21 : List Int := Go.Eng.sub w20_4 (plusO Off.z 1 (Option.some 16)) (mulE (Go.Eng.subN (hiNat Option.none 32) (Option.some 16)) 1);
 bif okY 20 v21 then
 bif okU w20_7 && (okU (nuU (numY v21)) && Decidable.decide (numU w20_7 + numU (nuU (numY v21)) < 1461501637330902918203684832716283019655932542976)) then
 let v22 : Int := IntKind.i64.wrap (Int.tdiv 0 4);
 let v23 : Int := IntKind.i64.wrap (8 * Int.tmod 0 4);
 let v24 : Int := IntKind.u64.wrap v23;
 let v25 : Int := shrI IntKind.u32 ((nuU (numU w20_7 + numU (nuU (numY v21)))).getD (mulE v22.toNat 1) 0) v24;
 let v26 : Int := IntKind.u8.wrap v25;
 let v27 : List Int := (List.replicate 16 0).set (mulE (Int.toNat 0) 1) v26;
 let v28 : Int := IntKind.i64.wrap (0 + 1);
 let v29 : Int := IntKind.i64.wrap (v28.tdiv 4);
 let v30 : Int := IntKind.i64.wrap (8 * v28.tmod 4);
 let v31 : Int := IntKind.u64.wrap v30;
 let v32 : Int := shrI IntKind.u32 ((nuU (numU w20_7 + numU (nuU (numY v21)))).getD (mulE v29.toNat 1) 0) v31;
 let v33 : Int := IntKind.u8.wrap v32;
 let v34 : List Int := v27.set (mulE v28.toNat 1) v33;
 let v35 : Int := IntKind.i64.wrap (v28 + 1);
 let v36 : Int := IntKind.i64.wrap (v35.tdiv 4);
 let v37 : Int := IntKind.i64.wrap (8 * v35.tmod 4);
 let v38 : Int := IntKind.u64.wrap v37;
 let v39 : Int := shrI IntKind.u32 ((nuU (numU w20_7 + numU (nuU (numY v21)))).getD (mulE v36.toNat 1) 0) v38;
 let v40 : Int := IntKind.u8.wrap v39;
 let v41 : List Int := v34.set (mulE v35.toNat 1) v40;
 let v42 : Int := IntKind.i64.wrap (v35 + 1);
 let v43 : Int := IntKind.i64.wrap (v42.tdiv 4);
 let v44 : Int := IntKind.i64.wrap (8 * v42.tmod 4);
 let v45 : Int := IntKind.u64.wrap v44;
 let v46 : Int := shrI IntKind.u32 ((nuU (numU w20_7 + numU (nuU (numY v21)))).getD (mulE v43.toNat 1) 0) v45;
 let v47 : Int := IntKind.u8.wrap v46;
 let v48 : List Int := v41.set (mulE v42.toNat 1) v47;
 let v49 : Int := IntKind.i64.wrap (v42 + 1);
 let v50 : Int := IntKind.i64.wrap (v49.tdiv 4);
 let v51 : Int := IntKind.i64.wrap (8 * v49.tmod 4);
 let v52 : Int := IntKind.u64.wrap v51;
 let v53 : Int := shrI IntKind.u32 ((nuU (numU w20_7 + numU (nuU (numY v21)))).getD (mulE v50.toNat 1) 0) v52;
 let v54 : Int := IntKind.u8.wrap v53;
 let v55 : List Int := v48.set (mulE v49.toNat 1) v54;
 let v56 : Int := IntKind.i64.wrap (v49 + 1);
 let v57 : Int := IntKind.i64.wrap (v56.tdiv 4);
 let v58 : Int := IntKind.i64.wrap (8 * v56.tmod 4);
 let v59 : Int := IntKind.u64.wrap v58;
 let v60 : Int := shrI IntKind.u32 ((nuU (numU w20_7 + numU (nuU (numY v21)))).getD (mulE v57.toNat 1) 0) v59;
 let v61 : Int := IntKind.u8.wrap v60;
 let v62 : List Int := v55.set (mulE v56.toNat 1) v61;
 let v63 : Int := IntKind.i64.wrap (v56 + 1);
 let v64 : Int := IntKind.i64.wrap (v63.tdiv 4);
 let v65 : Int := IntKind.i64.wrap (8 * v63.tmod 4);
 let v66 : Int := IntKind.u64.wrap v65;
 let v67 : Int := shrI IntKind.u32 ((nuU (numU w20_7 + numU (nuU (numY v21)))).getD (mulE v64.toNat 1) 0) v66;
 let v68 : Int := IntKind.u8.wrap v67;
 let v69 : List Int := v62.set (mulE v63.toNat 1) v68;
 let v70 : Int := IntKind.i64.wrap (v63 + 1);
 let v71 : Int := IntKind.i64.wrap (v70.tdiv 4);
 let v72 : Int := IntKind.i64.wrap (8 * v70.tmod 4);
 let v73 : Int := IntKind.u64.wrap v72;
 let v74 : Int := shrI IntKind.u32 ((nuU (numU w20_7 + numU (nuU (numY v21)))).getD (mulE v71.toNat 1) 0) v73;
 let v75 : Int := IntKind.u8.wrap v74;
 let v76 : List Int := v69.set (mulE v70.toNat 1) v75;
 let v77 : Int := IntKind.i64.wrap (v70 + 1);
 let v78 : Int := IntKind.i64.wrap (v77.tdiv 4);
 let v79 : Int := IntKind.i64.wrap (8 * v77.tmod 4);
 let v80 : Int := IntKind.u64.wrap v79;
 let v81 : Int := shrI IntKind.u32 ((nuU (numU w20_7 + numU (nuU (numY v21)))).getD (mulE v78.toNat 1) 0) v80;
 let v82 : Int := IntKind.u8.wrap v81;
 let v83 : List Int := v76.set (mulE v77.toNat 1) v82;
 let v84 : Int := IntKind.i64.wrap (v77 + 1);
 let v85 : Int := IntKind.i64.wrap (v84.tdiv 4);
 let v86 : Int := IntKind.i64.wrap (8 * v84.tmod 4);
 let v87 : Int := IntKind.u64.wrap v86;
 let v88 : Int := shrI IntKind.u32 ((nuU (numU w20_7 + numU (nuU (numY v21)))).getD (mulE v85.toNat 1) 0) v87;
 let v89 : Int := IntKind.u8.wrap v88;
 let v90 : List Int := v83.set (mulE v84.toNat 1) v89;
 let v91 : Int := IntKind.i64.wrap (v84 + 1);
 let v92 : Int := IntKind.i64.wrap (v91.tdiv 4);
 let v93 : Int := IntKind.i64.wrap (8 * v91.tmod 4);
 let v94 : Int := IntKind.u64.wrap v93;
 let v95 : Int := shrI IntKind.u32 ((nuU (numU w20_7 + numU (nuU (numY v21)))).getD (mulE v92.toNat 1) 0) v94;
 let v96 : Int := IntKind.u8.wrap v95;
 let v97 : List Int := v90.set (mulE v91.toNat 1) v96;
 let v98 : Int := IntKind.i64.wrap (v91 + 1);
 let v99 : Int := IntKind.i64.wrap (v98.tdiv 4);
 let v100 : Int := IntKind.i64.wrap (8 * v98.tmod 4);
 let v101 : Int := IntKind.u64.wrap v100;
 let v102 : Int := shrI IntKind.u32 ((nuU (numU w20_7 + numU (nuU (numY v21)))).getD (mulE v99.toNat 1) 0) v101;
 let v103 : Int := IntKind.u8.wrap v102;
 let v104 : List Int := v97.set (mulE v98.toNat 1) v103;
 let v105 : Int := IntKind.i64.wrap (v98 + 1);
 let v106 : Int := IntKind.i64.wrap (v105.tdiv 4);
 let v107 : Int := IntKind.i64.wrap (8 * v105.tmod 4);
 let v108 : Int := IntKind.u64.wrap v107;
 let v109 : Int := shrI IntKind.u32 ((nuU (numU w20_7 + numU (nuU (numY v21)))).getD (mulE v106.toNat 1) 0) v108;
 let v110 : Int := IntKind.u8.wrap v109;
 let v111 : List Int := v104.set (mulE v105.toNat 1) v110;
 let v112 : Int := IntKind.i64.wrap (v105 + 1);
 let v113 : Int := IntKind.i64.wrap (v112.tdiv 4);
 let v114 : Int := IntKind.i64.wrap (8 * v112.tmod 4);
 let v115 : Int := IntKind.u64.wrap v114;
 let v116 : Int := shrI IntKind.u32 ((nuU (numU w20_7 + numU (nuU (numY v21)))).getD (mulE v113.toNat 1) 0) v115;
 let v117 : Int := IntKind.u8.wrap v116;
 let v118 : List Int := v111.set (mulE v112.toNat 1) v117;
 let v119 : Int := IntKind.i64.wrap (v112 + 1);
 let v120 : Int := IntKind.i64.wrap (v119.tdiv 4);
 let v121 : Int := IntKind.i64.wrap (8 * v119.tmod 4);
 let v122 : Int := IntKind.u64.wrap v121;
 let v123 : Int := shrI IntKind.u32 ((nuU (numU w20_7 + numU (nuU (numY v21)))).getD (mulE v120.toNat 1) 0) v122;
 let v124 : Int := IntKind.u8.wrap v123;
 let v125 : List Int := v118.set (mulE v119.toNat 1) v124;
 let v126 : Int := IntKind.i64.wrap (v119 + 1);
 let v127 : Int := IntKind.i64.wrap (v126.tdiv 4);
 let v128 : Int := IntKind.i64.wrap (8 * v126.tmod 4);
 let v129 : Int := IntKind.u64.wrap v128;
 let v130 : Int := shrI IntKind.u32 ((nuU (numU w20_7 + numU (nuU (numY v21)))).getD (mulE v127.toNat 1) 0) v129;
 let v131 : Int := IntKind.u8.wrap v130;
 let v132 : List Int := v125.set (mulE v126.toNat 1) v131;
 k [DV.v (SV.one (At.ints IntKind.u8 16 v132))]
 else Option.none
 else Option.none)
 N 0 b key (List.replicate 16 0) (nuU (numY v19)) (List.replicate 5 0)
else Option.none


noncomputable def E25 (N : Nat) : Env := { Θ := Th, Γ := Q25, K := K25, ν := N25, fuel := 40, lp := [(4, mkL N25_4 f25_4_sh (f25_4_F N))] }

theorem f25_4_st_eq {R : Type} (N : Nat) (K : X → AS → Option R) (n : Nat) (x1 : Int) (x2 : List Int) (x3 : List Int) (x4 : List Int) (x5 : List Int) (x6 : List Int) : roundsOf (E25 N) N25_4 4 B25_4 K (n + 1) (fill f25_4_sh [.i x1, .l x2, .l x3, .l x4, .l x5, .l x6]) = f25_4_st N (fun x1 x2 x3 x4 x5 x6 => roundsOf (E25 N) N25_4 4 B25_4 K n (fill f25_4_sh [.i x1, .l x2, .l x3, .l x4, .l x5, .l x6])) (fun y1 y2 y3 y4 y5 y6 y7 => K (X.normal) (fill f25_4_ex1 [.b y1, .i y2, .l y3, .l y4, .l y5, .l y6, .l y7])) x1 x2 x3 x4 x5 x6 := by kernel_rfl
theorem f25_4_lp_eq {R : Type} (N : Nat) (K : X → AS → Option R) : ∀ (n : Nat) (x1 : Int) (x2 : List Int) (x3 : List Int) (x4 : List Int) (x5 : List Int) (x6 : List Int), roundsOf (E25 N) N25_4 4 B25_4 K n (fill f25_4_sh [.i x1, .l x2, .l x3, .l x4, .l x5, .l x6]) = f25_4_lp N (fun y1 y2 y3 y4 y5 y6 y7 => K (X.normal) (fill f25_4_ex1 [.b y1, .i y2, .l y3, .l y4, .l y5, .l y6, .l y7])) n x1 x2 x3 x4 x5 x6
  | 0, _, _, _, _, _, _ => rfl
  | n + 1, x1, x2, x3, x4, x5, x6 => by
    rw [f25_4_st_eq, f25_4_lp, show (fun x1 x2 x3 x4 x5 x6 => roundsOf (E25 N) N25_4 4 B25_4 K n (fill f25_4_sh [.i x1, .l x2, .l x3, .l x4, .l x5, .l x6])) = f25_4_lp N (fun y1 y2 y3 y4 y5 y6 y7 => K (X.normal) (fill f25_4_ex1 [.b y1, .i y2, .l y3, .l y4, .l y5, .l y6, .l y7])) n from by funext x1 x2 x3 x4 x5 x6; exact f25_4_lp_eq N K n x1 x2 x3 x4 x5 x6]
theorem f25_4_ok (N : Nat) (hlp : LoopsOk Try.prog (E25 N).lp B25_4) (hΓ : CtxOk Try.prog (E25 N).Γ) : LoopOk Try.prog (mkL N25_4 f25_4_sh (f25_4_F N)) 4 B25_4 := by
  refine loopOk_of (E := E25 N) thOk hΓ mixed hlp ?_
  intro R ls K r h
  unfold f25_4_F at h
  split at h
  · exact ⟨N, by rw [f25_4_lp_eq]; exact h⟩
  · cases h

theorem lok25_4 (N : Nat) (hΓ : CtxOk Try.prog Q25) : LoopOk Try.prog (mkL N25_4 f25_4_sh (f25_4_F N)) 4 B25_4 := f25_4_ok N (loopsOk_of (l := []) (by kernel_rfl) trivial) hΓ
theorem f25_contract (N : Nat) (hΓ : CtxOk Try.prog Q25) : Contract Try.prog 25 { sig := S25, impl := fun _ ds k => call (E25 N) S25 83 B25 R25 ds k } :=
  call_contract (E := E25 N) thOk hΓ mixed ok25.look ok25.body ok25.n ok25.rv ok25.name rfl (by decide) (loopsOk_of (l := [(0, B25_0), (2, B25_2), (4, B25_4), (6, B25_6)]) (by kernel_rfl) (allOk_skip rfl (allOk_skip rfl (allOk_cons (L := mkL N25_4 f25_4_sh (f25_4_F N)) rfl (lok25_4 N hΓ) (allOk_skip rfl trivial)))))
theorem f25_raw_eq {R : Type} (N : Nat) (key : List Int) (b : List Int) (k : List DV → Option R) : call (E25 N) S25 83 B25 R25 [.v (.one (.ints .u8 32 key)), .lst (.one .u8) 1 b] k = f25_raw N key b k := by kernel_rfl
end Go.Proofs.Ytiaddnmloonhgaa

/- Limbs of bytes; the whole; the digits of a tag: as numbers. -/
namespace Go.Proofs.Ytiaddnmloonhgaa
open Go Go.Eng
set_option maxRecDepth 100000

/-! ### limbs of bytes -/

theorem nats_bound {l : List Nat} {b : Nat} (h : ∀ x ∈ l, x < b) (hb : 0 < b) (i : Nat) : l.getD i 0 < b := by
  rw [List.getD_eq_getElem?_getD]
  cases hx : l[i]? with
  | none => exact hb
  | some x => exact h x (List.mem_of_getElem? hx)

theorem limbBit_nat {l : List Nat} (h : ∀ x ∈ l, x < 256) (i : Nat) : limbBit (nats l) i = decide (valB 256 l / 2 ^ i % 2 = 1) := by
  unfold limbBit
  have hb := nats_bound h (by decide) (i / 8)
  rw [nats_getD, shrN (k := .u8) (m := i % 8) (by show i % 8 ≤ 8; omega)]
  have e : andI .u8 ((l.getD (i / 8) 0 / 2 ^ (i % 8) : Nat) : Int) 1 = ((l.getD (i / 8) 0 / 2 ^ (i % 8) % 2 ^ 1 : Nat) : Int) :=
    maskN (k := .u8) (j := 1) rfl (Nat.lt_of_le_of_lt (Nat.div_le_self _ _) hb) (by decide)
  rw [e, valB_byte_bit h, Nat.pow_one]
  by_cases h2 : l.getD (i / 8) 0 / 2 ^ (i % 8) % 2 = 1
  · rw [h2]; rfl
  · have : l.getD (i / 8) 0 / 2 ^ (i % 8) % 2 = 0 := by omega
    rw [this]; rfl

theorem limbs_step_nat {l : List Nat} (h : ∀ x ∈ l, x < 256) {i : Nat} (hi : i < 130) :
    limbsStep (nats l) i (nats (digs 67108864 5 (valB 256 l % 2 ^ i))) = nats (digs 67108864 5 (valB 256 l % 2 ^ (i + 1))) := by
  unfold limbsStep
  rw [limbBit_nat h, show decide (i < 130) = true from decide_eq_true hi, Bool.true_and, mod_two_pow_succ]
  have hlt := Nat.mod_lt (valB 256 l) (Nat.two_pow_pos i)
  generalize valB 256 l % 2 ^ i = n at hlt ⊢
  by_cases hb : valB 256 l / 2 ^ i % 2 = 1
  · rw [hb, Nat.one_mul, decide_eq_true rfl, cond_true]
    have hs := digs_set (w := 26) (by decide) 5 n i hlt (by omega)
    rw [show (2 : Nat) ^ 26 = 67108864 from rfl] at hs
    rw [hs, ← nats_set]
    congr 1
    rw [nats_getD]
    have hd : (digs 67108864 5 n).getD (i / 26) 0 < 2 ^ (i % 26) := by
      rw [digs_getD _ _ _ _ (by omega)]
      have e : (2 : Nat) ^ i = 67108864 ^ (i / 26) * 2 ^ (i % 26) := by
        rw [show (67108864 : Nat) = 2 ^ 26 from rfl, ← Nat.pow_mul, ← Nat.pow_add, Nat.div_add_mod]
      refine Nat.lt_of_le_of_lt (Nat.mod_le _ _) ?_
      exact Nat.div_lt_of_lt_mul (by rw [← e]; exact hlt)
    have hm : i % 26 < 26 := Nat.mod_lt _ (by decide)
    generalize (digs 67108864 5 n).getD (i / 26) 0 = x at hd ⊢
    generalize i % 26 = j at hd hm ⊢
    have hp : (2 : Nat) ^ j ≤ 2 ^ 25 := Nat.pow_le_pow_right (by decide) (by omega)
    have e1 : shlI .u64 1 (j : Int) = ((2 ^ j : Nat) : Int) := by
      have := shlN (k := .u64) rfl (m := j) (by show j ≤ 64; omega) 1
      rw [Nat.one_mul, Nat.mod_eq_of_lt (Nat.lt_of_le_of_lt hp (by decide))] at this
      exact this
    rw [e1, orN (k := .u64) rfl (Nat.lt_of_lt_of_le hd (Nat.le_trans hp (by decide))) (Nat.lt_of_le_of_lt hp (by decide))]
    have := or_addN' (a := 1) (b := x) (j := j) hd
    rw [Nat.one_mul] at this
    rw [this]
  · have h0 : valB 256 l / 2 ^ i % 2 = 0 := by omega
    rw [h0, Nat.zero_mul, Nat.add_zero, decide_eq_false (by decide), cond_false]

theorem limbsGo_nat {l : List Nat} (h : ∀ x ∈ l, x < 256) : ∀ (m i : Nat), i + m = 130 → limbsGo (nats l) m i (nats (digs 67108864 5 (valB 256 l % 2 ^ i))) = nats (digs 67108864 5 (valB 256 l % 2 ^ 130))
  | 0, i, hm => by rw [show i = 130 by omega]; rfl
  | m + 1, i, hm => by
    rw [limbsGo, limbs_step_nat h (by omega)]
    exact limbsGo_nat h m (i + 1) (by omega)

theorem limbsGo_split (b : List Int) : ∀ (m k i : Nat) (n : List Int), limbsGo b (m + k) i n = limbsGo b k (i + m) (limbsGo b m i n)
  | 0, k, i, n => by rw [Nat.zero_add]; rfl
  | m + 1, k, i, n => by
    rw [show m + 1 + k = (m + k) + 1 by omega, limbsGo, limbsGo_split b m k (i + 1), limbsGo, show i + 1 + m = i + (m + 1) by omega]

theorem limbsGo_rest (b : List Int) : ∀ (m i : Nat) (n : List Int), 130 ≤ i → limbsGo b m i n = n
  | 0, _, _, _ => rfl
  | m + 1, i, n, h => by
    have : limbsStep b i n = n := by
      unfold limbsStep
      rw [show decide (i < 130) = false from decide_eq_false (by omega)]; rfl
    rw [limbsGo, this]
    exact limbsGo_rest b m (i + 1) n (by omega)

theorem limbs_nat {l : List Nat} (h : ∀ x ∈ l, x < 256) : limbsL (nats l) = nats (digs 67108864 5 (valB 256 l % 2 ^ 130)) := by
  unfold limbsL
  rw [show (136 : Nat) = 130 + 6 from rfl, limbsGo_split, limbsGo_rest _ _ _ _ (by decide)]
  have := limbsGo_nat h 130 0 rfl
  rw [show valB 256 l % 2 ^ 0 = 0 from Nat.mod_one _] at this
  exact this

/-! ### the whole -/

def wholeOf (D : List Int) : Option (Int × List Int × List Int) :=
  f63_0_lp 6 (fun _ y2 _ y4 _ y6 => some (y2, y4, y6)) 6 0 0 D (List.replicate 5 0) (D.set 0 (IntKind.u64.wrap (D.getD 0 0 + 5)))

theorem whole_of (a : List Int) : wholeRun a = wholeOf (carriedL (carriedL a)) := by kernel_rfl

def chainI (e0 a1 a2 a3 a4 : Int) : Int × List Int :=
  let s0 := IntKind.u64.wrap (e0 + 0)
  let s1 := IntKind.u64.wrap (a1 + shrI .u64 s0 26)
  let s2 := IntKind.u64.wrap (a2 + shrI .u64 s1 26)
  let s3 := IntKind.u64.wrap (a3 + shrI .u64 s2 26)
  let s4 := IntKind.u64.wrap (a4 + shrI .u64 s3 26)
  (shrI .u64 s4 26, [andI .u64 s0 67108863, andI .u64 s1 67108863, andI .u64 s2 67108863, andI .u64 s3 67108863, andI .u64 s4 67108863])

theorem wholeOf_eq (a0 a1 a2 a3 a4 : Int) : wholeOf [a0, a1, a2, a3, a4] = some ((chainI (IntKind.u64.wrap (a0 + 5)) a1 a2 a3 a4).1, [a0, a1, a2, a3, a4], (chainI (IntKind.u64.wrap (a0 + 5)) a1 a2 a3 a4).2) := by kernel_rfl

theorem chain_nat {a0 a1 a2 a3 a4 : Nat} (h0 : a0 < 4611686018427387904) (h1 : a1 < 4611686018427387904) (h2 : a2 < 4611686018427387904) (h3 : a3 < 4611686018427387904) (h4 : a4 < 4611686018427387904) :
    chainI (a0 : Int) (a1 : Int) (a2 : Int) (a3 : Int) (a4 : Int) = ((carC a0 a1 a2 a3 a4 : Int), nats [a0 % 67108864, (a1 + a0 / 67108864) % 67108864, (a2 + (a1 + a0 / 67108864) / 67108864) % 67108864,
    (a3 + (a2 + (a1 + a0 / 67108864) / 67108864) / 67108864) % 67108864, (a4 + (a3 + (a2 + (a1 + a0 / 67108864) / 67108864) / 67108864) / 67108864) % 67108864]) := by
  unfold chainI
  have e0 : IntKind.u64.wrap ((a0 : Int) + 0) = (a0 : Int) := by rw [Int.add_zero]; exact w64 (by omega)
  dsimp only
  simp only [e0, shr26]
  have e1 : IntKind.u64.wrap ((a1 : Int) + ((a0 / 67108864 : Nat) : Int)) = ((a1 + a0 / 67108864 : Nat) : Int) := w64 (n := a1 + a0 / 67108864) (by omega)
  simp only [e1, shr26]
  generalize hs1 : a1 + a0 / 67108864 = s1
  have e2 : IntKind.u64.wrap ((a2 : Int) + ((s1 / 67108864 : Nat) : Int)) = ((a2 + s1 / 67108864 : Nat) : Int) := w64 (n := a2 + s1 / 67108864) (by omega)
  simp only [e2, shr26]
  generalize hs2 : a2 + s1 / 67108864 = s2
  have e3 : IntKind.u64.wrap ((a3 : Int) + ((s2 / 67108864 : Nat) : Int)) = ((a3 + s2 / 67108864 : Nat) : Int) := w64 (n := a3 + s2 / 67108864) (by omega)
  simp only [e3, shr26]
  generalize hs3 : a3 + s2 / 67108864 = s3
  have e4 : IntKind.u64.wrap ((a4 : Int) + ((s3 / 67108864 : Nat) : Int)) = ((a4 + s3 / 67108864 : Nat) : Int) := w64 (n := a4 + s3 / 67108864) (by omega)
  simp only [e4, shr26]
  generalize hs4 : a4 + s3 / 67108864 = s4
  rw [and26 (by omega), and26 (by omega), and26 (by omega), and26 (by omega), and26 (by omega)]
  unfold carC
  rw [hs1, hs2, hs3, hs4]
  rfl

/-- once carried, limbs that are nearly small are small -/
theorem car_small {c0 c1 c2 c3 c4 : Nat} (h0 : c0 ≤ 67108868) (h1 : c1 < 67108864) (h2 : c2 < 67108864) (h3 : c3 < 67108864) (h4 : c4 < 67108864) :
    carC c0 c1 c2 c3 c4 ≤ 1 ∧ c0 % 67108864 + 5 * carC c0 c1 c2 c3 c4 < 67108864 := by
  unfold carC
  have a1 : c0 / 67108864 ≤ 1 := by omega
  have a0 : c0 / 67108864 = 0 ∨ c0 % 67108864 ≤ 4 := by omega
  have a2 := Nat.mod_lt c0 (show 67108864 > 0 by decide)
  generalize c0 / 67108864 = q0 at *
  generalize c0 % 67108864 = r0 at *
  have b1 : (c1 + q0) / 67108864 ≤ q0 := by omega
  generalize (c1 + q0) / 67108864 = q1 at *
  have b2 : (c2 + q1) / 67108864 ≤ q1 := by omega
  generalize (c2 + q1) / 67108864 = q2 at *
  have b3 : (c3 + q2) / 67108864 ≤ q2 := by omega
  generalize (c3 + q2) / 67108864 = q3 at *
  have b4 : (c4 + q3) / 67108864 ≤ q3 := by omega
  generalize (c4 + q3) / 67108864 = q4 at *
  omega

/-- small limbs stay -/
theorem car_none {c0 c1 c2 c3 c4 : Nat} (h0 : c0 < 67108864) (h1 : c1 < 67108864) (h2 : c2 < 67108864) (h3 : c3 < 67108864) (h4 : c4 < 67108864) : carN c0 c1 c2 c3 c4 = [c0, c1, c2, c3, c4] := by
  unfold carN carC
  rw [Nat.div_eq_of_lt h0, Nat.add_zero, Nat.div_eq_of_lt h1, Nat.add_zero, Nat.div_eq_of_lt h2, Nat.add_zero, Nat.div_eq_of_lt h3, Nat.add_zero, Nat.div_eq_of_lt h4,
    Nat.mod_eq_of_lt h0, Nat.mod_eq_of_lt h1, Nat.mod_eq_of_lt h2, Nat.mod_eq_of_lt h3, Nat.mod_eq_of_lt h4, Nat.mul_zero, Nat.add_zero]

theorem five_lt {d0 d1 d2 d3 d4 : Nat} (g0 : d0 < 67108864) (g1 : d1 < 67108864) (g2 : d2 < 67108864) (g3 : d3 < 67108864) (g4 : d4 < 67108864) : ∀ x ∈ [d0, d1, d2, d3, d4], x < 67108864 := by
  intro x hx
  simp only [List.mem_cons, List.not_mem_nil, or_false] at hx
  rcases hx with rfl | rfl | rfl | rfl | rfl <;> assumption

theorem digs_five {d0 d1 d2 d3 d4 : Nat} (g0 : d0 < 67108864) (g1 : d1 < 67108864) (g2 : d2 < 67108864) (g3 : d3 < 67108864) (g4 : d4 < 67108864) : digs 67108864 5 (val5 d0 d1 d2 d3 d4) = [d0, d1, d2, d3, d4] := by
  rw [← val5_eq]
  exact digs_of (by decide) (five_lt g0 g1 g2 g3 g4)

theorem val5_lt {d0 d1 d2 d3 d4 : Nat} (g0 : d0 < 67108864) (g1 : d1 < 67108864) (g2 : d2 < 67108864) (g3 : d3 < 67108864) (g4 : d4 < 67108864) : val5 d0 d1 d2 d3 d4 < 1361129467683753853853498429727072845824 := by
  rw [← val5_eq]
  have h := valB_lt (b := 67108864) (by decide) (five_lt g0 g1 g2 g3 g4)
  rw [show [d0, d1, d2, d3, d4].length = 5 from rfl, show (67108864 : Nat) ^ 5 = 1361129467683753853853498429727072845824 by decide] at h
  exact h

theorem whole_nat {c0 c1 c2 c3 c4 : Nat} (h0 : c0 ≤ 67108868) (h1 : c1 < 67108864) (h2 : c2 < 67108864) (h3 : c3 < 67108864) (h4 : c4 < 67108864) :
    wholeL (nats [c0, c1, c2, c3, c4]) = nats (digs 67108864 5 (val5 c0 c1 c2 c3 c4 % p1305)) := by
  have key : ∃ d0 d1 d2 d3 d4 : Nat, carriedL (nats [c0, c1, c2, c3, c4]) = nats [d0, d1, d2, d3, d4] ∧ d0 < 67108864 ∧ d1 < 67108864 ∧ d2 < 67108864 ∧ d3 < 67108864 ∧ d4 < 67108864 ∧ val5 d0 d1 d2 d3 d4 % p1305 = val5 c0 c1 c2 c3 c4 % p1305 := by
    have hv := car_val c0 c1 c2 c3 c4
    obtain ⟨hc, hs⟩ := car_small h0 h1 h2 h3 h4
    have en : carriedL (nats [c0, c1, c2, c3, c4]) = nats (carN c0 c1 c2 c3 c4) := car_nat (by omega) (by omega) (by omega) (by omega) (by omega)
    rw [en]
    unfold carN at hv ⊢
    have m1 := Nat.mod_lt (c1 + c0 / 67108864) (show 67108864 > 0 by decide)
    have m2 := Nat.mod_lt (c2 + (c1 + c0 / 67108864) / 67108864) (show 67108864 > 0 by decide)
    have m3 := Nat.mod_lt (c3 + (c2 + (c1 + c0 / 67108864) / 67108864) / 67108864) (show 67108864 > 0 by decide)
    have m4 := Nat.mod_lt (c4 + (c3 + (c2 + (c1 + c0 / 67108864) / 67108864) / 67108864) / 67108864) (show 67108864 > 0 by decide)
    generalize c0 % 67108864 + 5 * carC c0 c1 c2 c3 c4 = u0 at *
    generalize (c1 + c0 / 67108864) % 67108864 = u1 at *
    generalize (c2 + (c1 + c0 / 67108864) / 67108864) % 67108864 = u2 at *
    generalize (c3 + (c2 + (c1 + c0 / 67108864) / 67108864) / 67108864) % 67108864 = u3 at *
    generalize (c4 + (c3 + (c2 + (c1 + c0 / 67108864) / 67108864) / 67108864) / 67108864) % 67108864 = u4 at *
    refine ⟨u0, u1, u2, u3, u4, rfl, hs, m1, m2, m3, m4, ?_⟩
    rw [val5_eq] at hv
    rw [← hv, Nat.add_mul_mod_self_right]
  obtain ⟨d0, d1, d2, d3, d4, e, g0, g1, g2, g3, g4, hv⟩ := key
  have e2 : carriedL (nats [d0, d1, d2, d3, d4]) = nats [d0, d1, d2, d3, d4] :=
    (car_nat (by omega) (by omega) (by omega) (by omega) (by omega)).trans (by rw [car_none g0 g1 g2 g3 g4])
  have hrun := whole_of (nats [c0, c1, c2, c3, c4])
  rw [e, e2] at hrun
  rw [show nats [d0, d1, d2, d3, d4] = [(d0 : Int), (d1 : Int), (d2 : Int), (d3 : Int), (d4 : Int)] from rfl, wholeOf_eq] at hrun
  rw [show IntKind.u64.wrap ((d0 : Int) + 5) = ((d0 + 5 : Nat) : Int) from w64 (n := d0 + 5) (by omega), chain_nat (by omega) (by omega) (by omega) (by omega) (by omega)] at hrun
  unfold wholeL
  rw [hrun, ← hv]
  clear hrun e e2 hv h0 h1 h2 h3 h4
  have hv2 := car_val (d0 + 5) d1 d2 d3 d4
  have hlt := val5_lt g0 g1 g2 g3 g4
  have hv5 : val5 (d0 + 5) d1 d2 d3 d4 = val5 d0 d1 d2 d3 d4 + 5 := by unfold val5; omega
  rw [hv5] at hv2
  unfold carN at hv2
  have m0 := Nat.mod_lt (d0 + 5) (show 67108864 > 0 by decide)
  have m1 := Nat.mod_lt (d1 + (d0 + 5) / 67108864) (show 67108864 > 0 by decide)
  have m2 := Nat.mod_lt (d2 + (d1 + (d0 + 5) / 67108864) / 67108864) (show 67108864 > 0 by decide)
  have m3 := Nat.mod_lt (d3 + (d2 + (d1 + (d0 + 5) / 67108864) / 67108864) / 67108864) (show 67108864 > 0 by decide)
  have m4 := Nat.mod_lt (d4 + (d3 + (d2 + (d1 + (d0 + 5) / 67108864) / 67108864) / 67108864) / 67108864) (show 67108864 > 0 by decide)
  simp only
  generalize carC (d0 + 5) d1 d2 d3 d4 = c at *
  generalize (d1 + (d0 + 5) / 67108864) % 67108864 = u1 at *
  generalize (d2 + (d1 + (d0 + 5) / 67108864) / 67108864) % 67108864 = u2 at *
  generalize (d3 + (d2 + (d1 + (d0 + 5) / 67108864) / 67108864) / 67108864) % 67108864 = u3 at *
  generalize (d4 + (d3 + (d2 + (d1 + (d0 + 5) / 67108864) / 67108864) / 67108864) / 67108864) % 67108864 = u4 at *
  generalize (d0 + 5) % 67108864 = u0 at *
  have hu := val5_lt m0 m1 m2 m3 m4
  have hu5 : val5 (u0 + 5 * c) u1 u2 u3 u4 = val5 u0 u1 u2 u3 u4 + 5 * c := by unfold val5; omega
  rw [val5_eq, hu5] at hv2
  have dd := digs_five g0 g1 g2 g3 g4
  have du := digs_five m0 m1 m2 m3 m4
  generalize val5 d0 d1 d2 d3 d4 = V at *
  generalize val5 u0 u1 u2 u3 u4 = U at *
  unfold p1305 at *
  by_cases h : c = 0
  · rw [h, show decide (((0 : Nat) : Int) > 0) = false from rfl, cond_false, Nat.mod_eq_of_lt (by omega), dd]
    rfl
  · have h1 : c = 1 := by omega
    rw [h1, show decide (((1 : Nat) : Int) > 0) = true from rfl, cond_true, Nat.mod_eq_sub_mod (by omega), Nat.mod_eq_of_lt (by omega)]
    rw [show V - 1361129467683753853853498429727072845819 = U by omega, du]

/-! ### the digits of a tag -/

theorem bitsGo_nat {X base : Nat} (hX : base + 8 ≤ 130) : ∀ (m j : Nat), j + m = 8 → bitsGo (nats (digs 67108864 5 X)) base m j ((X / 2 ^ base % 2 ^ j : Nat) : Int) = ((X / 2 ^ base % 256 : Nat) : Int)
  | 0, j, h => by rw [show j = 8 by omega]; rfl
  | m + 1, j, h => by
    have step : orI .u64 ((X / 2 ^ base % 2 ^ j : Nat) : Int) (shlI .u64 (andI .u64 (shrI .u64 ((nats (digs 67108864 5 X)).getD ((base + j) / 26) 0) (((base + j) % 26 : Nat) : Int)) 1) (j : Int)) = ((X / 2 ^ base % 2 ^ (j + 1) : Nat) : Int) := by
      have hb := nats_digs_bound (b := 67108864) (m := 5) (n := X) (by decide) ((base + j) / 26)
      have hbit := digs_bit (w := 26) (m := 5) (n := X) (by decide) (j := base + j) (by omega)
      rw [show (2 : Nat) ^ 26 = 67108864 from rfl] at hbit
      rw [nats_getD, shrN (k := .u64) (m := (base + j) % 26) (by show _ ≤ 64; omega)]
      have e1 : andI .u64 (((digs 67108864 5 X).getD ((base + j) / 26) 0 / 2 ^ ((base + j) % 26) : Nat) : Int) 1 = (((digs 67108864 5 X).getD ((base + j) / 26) 0 / 2 ^ ((base + j) % 26) % 2 ^ 1 : Nat) : Int) :=
        maskN (k := .u64) (j := 1) rfl (Nat.lt_of_le_of_lt (Nat.div_le_self _ _) (Nat.lt_trans hb (by decide))) (by decide)
      rw [e1, Nat.pow_one, hbit, mod_two_pow_succ, Nat.div_div_eq_div_mul, ← Nat.pow_add]
      have hlt := Nat.mod_lt (X / 2 ^ base) (Nat.two_pow_pos j)
      have hj : (2 : Nat) ^ j ≤ 2 ^ 7 := Nat.pow_le_pow_right (by decide) (by omega)
      have hbb := Nat.mod_lt (X / 2 ^ (base + j)) (show 2 > 0 by decide)
      generalize X / 2 ^ base % 2 ^ j = n at hlt ⊢
      generalize X / 2 ^ (base + j) % 2 = t at hbb ⊢
      rw [shlN (k := .u64) rfl (m := j) (by show j ≤ 64; omega)]
      have ht : t * 2 ^ j ≤ 1 * 2 ^ 7 := Nat.mul_le_mul (by omega) hj
      rw [Nat.mod_eq_of_lt (Nat.lt_of_le_of_lt ht (by decide))]
      rw [orN (k := .u64) rfl (Nat.lt_of_lt_of_le hlt (Nat.le_trans hj (by decide))) (Nat.lt_of_le_of_lt ht (by decide)), or_addN' hlt]
    rw [bitsGo, step]
    exact bitsGo_nat hX m (j + 1) (by omega)

theorem digGo_nat {X : Nat} {key : List Nat} (hk : ∀ x ∈ key, x < 256) : ∀ (m i c : Nat), i + m ≤ 16 → c ≤ 1 →
    digGo (nats key) (nats (digs 67108864 5 X)) m i (c : Int) = nats (digs 256 m (X / 2 ^ (8 * i) + valB 256 (key.drop (16 + i)) + c))
  | 0, _, _, _, _ => rfl
  | m + 1, i, c, h, hc => by
    have hb := bitsGo_nat (X := X) (base := 8 * i) (by omega) 8 0 rfl
    rw [Nat.pow_zero, Nat.mod_one] at hb
    have hkb := nats_bound hk (by decide) (16 + i)
    have hd : valB 256 (key.drop (16 + i)) = key.getD (16 + i) 0 + 256 * valB 256 (key.drop (16 + (i + 1))) := by
      by_cases hl : 16 + i < key.length
      · rw [List.drop_eq_getElem_cons hl, valB, List.getD_eq_getElem?_getD, List.getElem?_eq_getElem hl]; rfl
      · rw [List.drop_of_length_le (by omega), List.drop_of_length_le (by omega), List.getD_eq_getElem?_getD, List.getElem?_eq_none (by omega)]; rfl
    have hxm := Nat.mod_lt (X / 2 ^ (8 * i)) (show 256 > 0 by decide)
    have hxd : X / 2 ^ (8 * (i + 1)) = X / 2 ^ (8 * i) / 256 := by
      rw [show 8 * (i + 1) = 8 * i + 8 by omega, Nat.pow_add, Nat.div_div_eq_div_mul]
    rw [digGo]
    rw [show (0 : Int) = ((0 : Nat) : Int) from rfl, hb, ← show (0 : Int) = ((0 : Nat) : Int) from rfl, nats_getD, w64 (n := key.getD (16 + i) 0) (by omega)]
    rw [show IntKind.u64.wrap (((X / 2 ^ (8 * i) % 256 : Nat) : Int) + ((key.getD (16 + i) 0 : Nat) : Int)) = ((X / 2 ^ (8 * i) % 256 + key.getD (16 + i) 0 : Nat) : Int) from w64 (n := X / 2 ^ (8 * i) % 256 + key.getD (16 + i) 0) (by omega)]
    rw [show IntKind.u64.wrap ((c : Int) + ((X / 2 ^ (8 * i) % 256 + key.getD (16 + i) 0 : Nat) : Int)) = ((c + (X / 2 ^ (8 * i) % 256 + key.getD (16 + i) 0) : Nat) : Int) from w64 (n := c + (X / 2 ^ (8 * i) % 256 + key.getD (16 + i) 0)) (by omega)]
    rw [wm8, show shrI .u64 ((c + (X / 2 ^ (8 * i) % 256 + key.getD (16 + i) 0) : Nat) : Int) 8 = (((c + (X / 2 ^ (8 * i) % 256 + key.getD (16 + i) 0)) / 2 ^ 8 : Nat) : Int) from shrN (k := .u64) (m := 8) (by decide) _]
    rw [digGo_nat hk m (i + 1) _ (by omega) (by omega), digs, hxd, hd]
    generalize X / 2 ^ (8 * i) = Y at *
    generalize key.getD (16 + i) 0 = z at *
    generalize valB 256 (key.drop (16 + (i + 1))) = V
    rw [show (2 : Nat) ^ 8 = 256 from rfl]
    rw [show (c + (Y % 256 + z)) % 256 = (Y + (z + 256 * V) + c) % 256 by omega, show Y / 256 + V + (c + (Y % 256 + z)) / 256 = (Y + (z + 256 * V) + c) / 256 by omega]
    rfl
end Go.Proofs.Ytiaddnmloonhgaa

/- The tag as a number: a polynomial modulo 2^130 - 5, and what is added. -/
namespace Go.Proofs.Ytiaddnmloonhgaa
open Go Go.Eng
set_option maxRecDepth 100000

/-! ### a piece -/

/-- the number of a piece: its bytes and a one behind -/
def pv (c : List Nat) : Nat := valB 256 c + 256 ^ c.length

theorem valB_zeros (b : Nat) : ∀ n, valB b (List.replicate n 0) = 0
  | 0 => rfl
  | n + 1 => by rw [List.replicate_succ, valB, valB_zeros b n]; simp

theorem nats_append (a b : List Nat) : nats (a ++ b) = nats a ++ nats b := by simp [nats]
theorem nats_replicate (n x : Nat) : nats (List.replicate n x) = List.replicate n (x : Int) := by simp [nats]
theorem nats_take (l : List Nat) (n : Nat) : (nats l).take n = nats (l.take n) := by simp [nats, List.map_take]
theorem nats_drop (l : List Nat) (n : Nat) : (nats l).drop n = nats (l.drop n) := by simp [nats, List.map_drop]

theorem piece_nat {c : List Nat} (hc : c.length ≤ 16) : pieceL (nats c) = nats (c ++ 1 :: List.replicate (16 - c.length) 0) := by
  unfold pieceL
  rw [nats_length]
  have e : (List.replicate 17 (0 : Int)).drop c.length = nats (0 :: List.replicate (16 - c.length) 0) := by
    rw [List.drop_replicate, show 17 - c.length = (16 - c.length) + 1 by omega, List.replicate_succ]
    simp [nats]
  rw [e, ← nats_append, show (1 : Int) = ((1 : Nat) : Int) from rfl, nats_set]
  congr 1
  rw [List.set_append_right _ _ (Nat.le_refl _), Nat.sub_self, List.set_cons_zero]

theorem piece_val (c : List Nat) : valB 256 (c ++ 1 :: List.replicate (16 - c.length) 0) = pv c := by
  rw [valB_append, valB, valB_zeros]; simp [pv]

theorem piece_lt {c : List Nat} (h : ∀ x ∈ c, x < 256) : ∀ x ∈ c ++ 1 :: List.replicate (16 - c.length) 0, x < 256 := by
  intro x hx
  rcases List.mem_append.1 hx with hx | hx
  · exact h x hx
  · rcases List.mem_cons.1 hx with e | hx
    · omega
    · have := List.eq_of_mem_replicate hx; omega

theorem pv_lt {c : List Nat} (h : ∀ x ∈ c, x < 256) (hc : c.length ≤ 16) : pv c < 2 ^ 130 := by
  have h1 := valB_lt (by decide) h
  have h2 : 256 ^ c.length ≤ 256 ^ 16 := Nat.pow_le_pow_right (by decide) hc
  unfold pv
  have e : (256 : Nat) ^ 16 + 256 ^ 16 < 2 ^ 130 := by decide
  omega

theorem limbs_piece {c : List Nat} (h : ∀ x ∈ c, x < 256) (hc : c.length ≤ 16) : limbsL (pieceL (nats c)) = nats (digs 67108864 5 (pv c)) := by
  rw [piece_nat hc, limbs_nat (piece_lt h), piece_val, Nat.mod_eq_of_lt (pv_lt h hc)]

/-! ### the sum -/

theorem addL_eq (a0 a1 a2 a3 a4 : Int) (p : List Int) : addL [a0, a1, a2, a3, a4] p = [IntKind.u64.wrap (a0 + p.getD 0 0), IntKind.u64.wrap (a1 + p.getD 1 0), IntKind.u64.wrap (a2 + p.getD 2 0), IntKind.u64.wrap (a3 + p.getD 3 0), IntKind.u64.wrap (a4 + p.getD 4 0)] := by kernel_rfl

theorem add_nat {a0 a1 a2 a3 a4 : Nat} (ha : Sml a0 a1 a2 a3 a4) (X : Nat) (hX : X < 2 ^ 130) :
    ∃ b0 b1 b2 b3 b4 : Nat, addL (nats [a0, a1, a2, a3, a4]) (nats (digs 67108864 5 X)) = nats [b0, b1, b2, b3, b4] ∧ Lim 268435456 b0 b1 b2 b3 b4 ∧ val5 b0 b1 b2 b3 b4 = val5 a0 a1 a2 a3 a4 + X := by
  obtain ⟨h0, h1, h2, h3, h4⟩ := ha
  have hv := digs_val 67108864 5 X
  rw [Nat.mod_eq_of_lt hX] at hv
  have e : digs 67108864 5 X = [X % 67108864, X / 67108864 % 67108864, X / 67108864 / 67108864 % 67108864, X / 67108864 / 67108864 / 67108864 % 67108864, X / 67108864 / 67108864 / 67108864 / 67108864 % 67108864] := rfl
  rw [e] at hv ⊢
  have m0 := Nat.mod_lt X (show 67108864 > 0 by decide)
  have m1 := Nat.mod_lt (X / 67108864) (show 67108864 > 0 by decide)
  have m2 := Nat.mod_lt (X / 67108864 / 67108864) (show 67108864 > 0 by decide)
  have m3 := Nat.mod_lt (X / 67108864 / 67108864 / 67108864) (show 67108864 > 0 by decide)
  have m4 := Nat.mod_lt (X / 67108864 / 67108864 / 67108864 / 67108864) (show 67108864 > 0 by decide)
  rw [val5_eq] at hv
  generalize X % 67108864 = x0 at *
  generalize X / 67108864 % 67108864 = x1 at *
  generalize X / 67108864 / 67108864 % 67108864 = x2 at *
  generalize X / 67108864 / 67108864 / 67108864 % 67108864 = x3 at *
  generalize X / 67108864 / 67108864 / 67108864 / 67108864 % 67108864 = x4 at *
  clear e
  refine ⟨a0 + x0, a1 + x1, a2 + x2, a3 + x3, a4 + x4, ?_, ⟨by omega, by omega, by omega, by omega, by omega⟩, by rw [← hv]; unfold val5; omega⟩
  have := addL_eq a0 a1 a2 a3 a4 (nats [x0, x1, x2, x3, x4])
  refine this.trans ?_
  show [IntKind.u64.wrap ((a0 + x0 : Nat) : Int), IntKind.u64.wrap ((a1 + x1 : Nat) : Int), IntKind.u64.wrap ((a2 + x2 : Nat) : Int), IntKind.u64.wrap ((a3 + x3 : Nat) : Int), IntKind.u64.wrap ((a4 + x4 : Nat) : Int)] = _
  rw [w64 (by omega), w64 (by omega), w64 (by omega), w64 (by omega), w64 (by omega)]
  rfl

/-! ### the polynomial -/

/-- Horner, piece by piece -/
def polyGo (R : Nat) (l : List Nat) : Nat → Nat → Nat → Nat
  | 0, _, acc => acc
  | m + 1, i, acc => polyGo R l m (i + 16) ((acc + pv ((l.drop i).take 16)) * R)

theorem mod_of {a b q p : Nat} (h : a + q * p = b) : a % p = b % p := by rw [← h, Nat.add_mul_mod_self_right]

theorem polyGo_mod (p R : Nat) (l : List Nat) : ∀ (m i a b : Nat), a % p = b % p → polyGo R l m i a % p = polyGo R l m i b % p
  | 0, _, _, _, h => h
  | m + 1, i, a, b, h => by
    refine polyGo_mod p R l m (i + 16) _ _ ?_
    have e : (a + pv ((l.drop i).take 16)) % p = (b + pv ((l.drop i).take 16)) % p := by rw [Nat.add_mod, h, ← Nat.add_mod]
    rw [Nat.mul_mod, e, ← Nat.mul_mod]

theorem macGo_nat {l : List Nat} (hl : ∀ x ∈ l, x < 256) {r0 r1 r2 r3 r4 : Nat} (hr : Lim 134217728 r0 r1 r2 r3 r4) :
    ∀ (m i : Nat) (a0 a1 a2 a3 a4 : Nat), Sml a0 a1 a2 a3 a4 → ∃ b0 b1 b2 b3 b4 : Nat, macGo (nats [r0, r1, r2, r3, r4]) (nats l) m i (nats [a0, a1, a2, a3, a4]) = nats [b0, b1, b2, b3, b4] ∧ Sml b0 b1 b2 b3 b4 ∧
      val5 b0 b1 b2 b3 b4 % p1305 = polyGo (val5 r0 r1 r2 r3 r4) l m i (val5 a0 a1 a2 a3 a4) % p1305
  | 0, i, a0, a1, a2, a3, a4, h => ⟨a0, a1, a2, a3, a4, rfl, h, rfl⟩
  | m + 1, i, a0, a1, a2, a3, a4, h => by
    have hc : ((l.drop i).take 16).length ≤ 16 := List.length_take_le _ _
    have hb : ∀ x ∈ (l.drop i).take 16, x < 256 := fun x hx => hl x (List.mem_of_mem_drop (List.mem_of_mem_take hx))
    obtain ⟨c0, c1, c2, c3, c4, e1, l1, v1⟩ := add_nat h (pv ((l.drop i).take 16)) (pv_lt hb hc)
    obtain ⟨d0, d1, d2, d3, d4, q, e2, l2, v2⟩ := times_nat l1 hr
    obtain ⟨b0, b1, b2, b3, b4, e3, l3, v3⟩ := macGo_nat hl hr m (i + 16) d0 d1 d2 d3 d4 l2
    refine ⟨b0, b1, b2, b3, b4, ?_, l3, ?_⟩
    · rw [macGo, nats_drop, nats_take, limbs_piece hb hc, e1, e2, e3]
    · rw [v3, polyGo]
      refine polyGo_mod _ _ _ _ _ _ _ ?_
      rw [mod_of v2, v1]

/-! ### the key -/

def setAndN (x : List Nat) (i m : Nat) : List Nat := x.set i (x.getD i 0 &&& m)
def clampN (x : List Nat) : List Nat := setAndN (setAndN (setAndN (setAndN (setAndN (setAndN (setAndN x 3 15) 7 15) 11 15) 15 15) 4 252) 8 252) 12 252

theorem setAnd_nat {x : List Nat} (h : ∀ y ∈ x, y < 256) {i m : Nat} (hm : m < 256) : setAnd (nats x) i (m : Int) = nats (setAndN x i m) ∧ ∀ y ∈ setAndN x i m, y < 256 := by
  have hb := nats_bound h (by decide) i
  refine ⟨?_, ?_⟩
  · unfold setAnd setAndN
    rw [nats_getD, andN (k := .u8) rfl hb hm, nats_set]
  · intro y hy
    rcases List.mem_or_eq_of_mem_set hy with hy | e
    · exact h y hy
    · subst e; exact Nat.lt_of_le_of_lt Nat.and_le_left hb

theorem clamp_nat {x : List Nat} (h : ∀ y ∈ x, y < 256) : clampB (clampA (nats x)) = nats (clampN x) ∧ ∀ y ∈ clampN x, y < 256 := by
  unfold clampB clampA clampN
  obtain ⟨e1, h1⟩ := setAnd_nat h (i := 3) (m := 15) (by decide)
  obtain ⟨e2, h2⟩ := setAnd_nat h1 (i := 7) (m := 15) (by decide)
  obtain ⟨e3, h3⟩ := setAnd_nat h2 (i := 11) (m := 15) (by decide)
  obtain ⟨e4, h4⟩ := setAnd_nat h3 (i := 15) (m := 15) (by decide)
  obtain ⟨e5, h5⟩ := setAnd_nat h4 (i := 4) (m := 252) (by decide)
  obtain ⟨e6, h6⟩ := setAnd_nat h5 (i := 8) (m := 252) (by decide)
  obtain ⟨e7, h7⟩ := setAnd_nat h6 (i := 12) (m := 252) (by decide)
  refine ⟨?_, h7⟩
  rw [show (15 : Int) = ((15 : Nat) : Int) from rfl, show (252 : Int) = ((252 : Nat) : Int) from rfl, e1, e2, e3, e4, e5, e6, e7]

/-- the number of the key's first half -/
def rOf (key : List Nat) : Nat := valB 256 (clampN (key.take 16 ++ [0])) % 2 ^ 130

theorem half_nat {key : List Nat} (h : ∀ y ∈ key, y < 256) (hk : key.length = 32) : halfL (nats key) = nats (digs 67108864 5 (rOf key)) := by
  unfold halfL
  have e : Go.Eng.splice (List.replicate 17 0) (plusO .z 1 none) (List.take (mulE (min (rowLen 1 (Go.Eng.sub (nats key) (plusO .z 1 none) (mulE (subN (hiNat (some 16) 32) none) 1))) (subN (hiNat none 17) none)) 1) (Go.Eng.sub (nats key) (plusO .z 1 none) (mulE (subN (hiNat (some 16) 32) none) 1))) = nats (key.take 16 ++ [0]) := by
    have l16 : (key.take 16).length = 16 := by rw [List.length_take]; omega
    have s : Go.Eng.sub (nats key) (plusO .z 1 none) (mulE (subN (hiNat (some 16) 32) none) 1) = nats (key.take 16) := by rw [← nats_take]; rfl
    rw [s, rowLen_one, nats_length, l16]
    show splice (List.replicate 17 0) .z ((nats (key.take 16)).take 16) = _
    rw [List.take_of_length_le (by rw [nats_length]; omega)]
    unfold splice
    rw [nats_length, l16, nats_append]
    rfl
  rw [e]
  have h0 : ∀ y ∈ key.take 16 ++ [0], y < 256 := by
    intro y hy
    rcases List.mem_append.1 hy with hy | hy
    · exact h y (List.mem_of_mem_take hy)
    · simp at hy; omega
  obtain ⟨e1, h1⟩ := clamp_nat h0
  rw [e1, limbs_nat h1]
  rfl

/-! ### the tag -/

def macN (key l : List Nat) : List Nat := digs 256 16 (polyGo (rOf key) l ((l.length + 15) / 16) 0 0 % p1305 + valB 256 (key.drop 16))

theorem mac_nat {key l : List Nat} (h : ∀ y ∈ key, y < 256) (hk : key.length = 32) (hl : ∀ x ∈ l, x < 256) : macL (nats key) (nats l) = nats (macN key l) := by
  unfold macL
  rw [half_nat h hk, nats_length]
  have hR : rOf key < 2 ^ 130 := Nat.mod_lt _ (by decide)
  have hv := digs_val 67108864 5 (rOf key)
  rw [Nat.mod_eq_of_lt hR] at hv
  have hd : ∀ x ∈ digs 67108864 5 (rOf key), x < 67108864 := digs_lt (by decide)
  obtain ⟨r0, r1, r2, r3, r4, er⟩ : ∃ r0 r1 r2 r3 r4, digs 67108864 5 (rOf key) = [r0, r1, r2, r3, r4] := ⟨_, _, _, _, _, rfl⟩
  rw [er] at hv hd ⊢
  rw [val5_eq] at hv
  have hr : Lim 134217728 r0 r1 r2 r3 r4 := by
    simp only [List.mem_cons, List.not_mem_nil, or_false, forall_eq_or_imp, forall_eq] at hd
    obtain ⟨d0, d1, d2, d3, d4⟩ := hd
    exact ⟨by omega, by omega, by omega, by omega, by omega⟩
  obtain ⟨b0, b1, b2, b3, b4, e, hs, v⟩ := macGo_nat hl hr ((l.length + 15) / 16) 0 0 0 0 0 0 ⟨by decide, by decide, by decide, by decide, by decide⟩
  rw [hv, show val5 0 0 0 0 0 = 0 from rfl] at v
  rw [show (List.replicate 5 (0 : Int)) = nats [0, 0, 0, 0, 0] from rfl, e, whole_nat hs.1 hs.2.1 hs.2.2.1 hs.2.2.2.1 hs.2.2.2.2, v, digL_eq]
  have := digGo_nat (X := polyGo (rOf key) l ((l.length + 15) / 16) 0 0 % p1305) h 16 0 0 (by decide) (by decide)
  rw [Nat.mul_zero, Nat.pow_zero, Nat.div_one, Nat.add_zero, Nat.add_zero] at this
  exact this
end Go.Proofs.Ytiaddnmloonhgaa

/- What rime/rimeref12.Stream comes to. MADE BY PROGRAM (wip/tools/mkfn.py, EngGen.lean). -/
namespace Go.Proofs.Ytiaddnmloonhgaa
open Go Go.Eng
set_option maxRecDepth 100000
set_option linter.unusedVariables false

def f17_2_sh : Shp := { n := 71, lo := 4, slots := [(1, .one (.int IntKind.u32)), (3, .one (.fix (At.own 3))), (4, .one (.fix (At.ptr 4 0 Off.z 32))), (6, .one (.fix (At.ptr 6 0 Off.z 12))), (11, .one (.fix (At.own 1000011))), (12, .one (.int IntKind.i64)), (13, .one (.fix (At.ptr 13 0 Off.z 64))), (14, .one (.int IntKind.i64))], items := [(1000011, .row (.one IntKind.u8) 1), (3, .view (.one IntKind.u8) 1), (4, .obj [.ints IntKind.u8 32]), (6, .obj [.ints IntKind.u8 12]), (13, .obj [.ints IntKind.u8 64])] }
def f17_2_ex1 : Shp := { n := 71, lo := 4, slots := [(54, .one (.bool)), (1, .one (.int IntKind.u32)), (3, .one (.fix (At.own 3))), (4, .one (.fix (At.ptr 4 0 Off.z 32))), (6, .one (.fix (At.ptr 6 0 Off.z 12))), (11, .one (.fix (At.own 1000011))), (12, .one (.int IntKind.i64)), (13, .one (.fix (At.ptr 13 0 Off.z 64))), (14, .one (.int IntKind.i64))], items := [(1000011, .row (.one IntKind.u8) 1), (3, .view (.one IntKind.u8) 1), (4, .obj [.ints IntKind.u8 32]), (6, .obj [.ints IntKind.u8 12]), (13, .obj [.ints IntKind.u8 64])] }
noncomputable def f17_2_st {R : Type} (N : Nat) (self : Int → Int → Int → List Int → List Int → List Int → List Int → List Int → Option R) (k1 : Bool → Int → Int → Int → List Int → List Int → List Int → List Int → List Int → Option R) (x1 : Int) (x2 : Int) (x3 : Int) (x4 : List Int) (x5 : List Int) (x6 : List Int) (x7 : List Int) (x8 : List Int) : Option R :=
 let v0 : Int := IntKind.i64.wrap (x2 + 64);
bif Decidable.decide (x3 < v0) then
 let v1 : Bool := bif Bool.true then Decidable.decide (x3 < nI (rowLen 1 x5)) else Bool.false;
 bif v1 then
 bif Decidable.decide (0 ≤ x3) && Decidable.decide (x3 < nI (rowLen 1 x5)) then
 let v2 : Int := IntKind.i64.wrap (x3 - x2);
 bif Decidable.decide (0 ≤ v2) && Decidable.decide (v2 < 64) then
 let v3 : Int := xorI IntKind.u8 (x5.getD (mulE x3.toNat 1) 0) (x8.getD (mulE v2.toNat 1) 0);
 let v4 : List Int := (zerosOf (1 * 1)).set 0 v3;
 bif ((2 * (rowLen 1 x4 + rowLen 1 v4) + 192) * 1).ble big48 && (rowLen 1 x4 + rowLen 1 v4).ble big48 then
 let v5 : Int := IntKind.i64.wrap (x3 + 1);
 let v6 : List Int := x4 ++ v4;
 self x1 x2 v5 v6 x5 x6 x7 x8
 else Option.none
 else Option.none
 else Option.none
 else k1 v1 x1 x2 x3 x4 x5 x6 x7 x8
else k1 Bool.false x1 x2 x3 x4 x5 x6 x7 x8
noncomputable def f17_2_lp {R : Type} (N : Nat) (k1 : Bool → Int → Int → Int → List Int → List Int → List Int → List Int → List Int → Option R) : Nat → Int → Int → Int → List Int → List Int → List Int → List Int → List Int → Option R
 | 0, _, _, _, _, _, _, _, _ => none
 | n + 1, x1, x2, x3, x4, x5, x6, x7, x8 => f17_2_st N (f17_2_lp N k1 n) k1 x1 x2 x3 x4 x5 x6 x7 x8
noncomputable def f17_2_F (N : Nat) : (R : Type) → List Leaf → (X → AS → Option R) → Option R := fun _ ls K => match ls with
 | [.i x1, .i x2, .i x3, .l x4, .l x5, .l x6, .l x7, .l x8] => f17_2_lp N (fun y1 y2 y3 y4 y5 y6 y7 y8 y9 => K (X.normal) (fill f17_2_ex1 [.b y1, .i y2, .i y3, .i y4, .l y5, .l y6, .l y7, .l y8, .l y9])) N x1 x2 x3 x4 x5 x6 x7 x8
 | _ => none
def f17_0_sh : Shp := { n := 71, lo := 4, slots := [(1, .one (.int IntKind.u32)), (3, .one (.fix (At.own 3))), (4, .one (.fix (At.ptr 4 0 Off.z 32))), (6, .one (.fix (At.ptr 6 0 Off.z 12))), (11, .one (.fix (At.own 1000011))), (12, .one (.int IntKind.i64))], items := [(1000011, .row (.one IntKind.u8) 1), (3, .view (.one IntKind.u8) 1), (4, .obj [.ints IntKind.u8 32]), (6, .obj [.ints IntKind.u8 12])] }
def f17_0_ex1 : Shp := { n := 71, lo := 4, slots := [(33, .one (.bool)), (1, .one (.int IntKind.u32)), (3, .one (.fix (At.own 3))), (4, .one (.fix (At.ptr 4 0 Off.z 32))), (6, .one (.fix (At.ptr 6 0 Off.z 12))), (11, .one (.fix (At.own 1000011))), (12, .one (.int IntKind.i64))], items := [(1000011, .row (.one IntKind.u8) 1), (3, .view (.one IntKind.u8) 1), (4, .obj [.ints IntKind.u8 32]), (6, .obj [.ints IntKind.u8 12])] }
noncomputable def f17_0_st {R : Type} (N : Nat) (self : Int → Int → List Int → List Int → List Int → List Int → Option R) (k1 : Bool → Int → Int → List Int → List Int → List Int → List Int → Option R) (x1 : Int) (x2 : Int) (x3 : List Int) (x4 : List Int) (x5 : List Int) (x6 : List Int) : Option R :=
 bif Decidable.decide (x2 < nI (rowLen 1 x4)) then
 bif okN 32 x5 && okN 12 x6 then
 let v0 : Int := IntKind.i64.wrap (x2.tdiv 64);
 let v1 : Int := IntKind.u32.wrap v0;
 let v2 : Int := IntKind.u32.wrap (x1 + v1);
 f17_2_lp N
 (fun w3_1 w3_2 w3_3 w3_4 w3_5 w3_6 w3_7 w3_8 w3_9 =>
 let v4 : Int := IntKind.i64.wrap (w3_3 + 64);
 self w3_2 v4 w3_5 w3_6 w3_7 w3_8)
 N x1 x2 x2 x3 x4 x5 x6 (blockL x5 v2 x6)
 else Option.none
else k1 (Decidable.decide (x2 < nI (rowLen 1 x4))) x1 x2 x3 x4 x5 x6
noncomputable def f17_0_lp {R : Type} (N : Nat) (k1 : Bool → Int → Int → List Int → List Int → List Int → List Int → Option R) : Nat → Int → Int → List Int → List Int → List Int → List Int → Option R
 | 0, _, _, _, _, _, _ => none
 | n + 1, x1, x2, x3, x4, x5, x6 => f17_0_st N (f17_0_lp N k1 n) k1 x1 x2 x3 x4 x5 x6
noncomputable def f17_0_F (N : Nat) : (R : Type) → List Leaf → (X → AS → Option R) → Option R := fun _ ls K => match ls with
 | [.i x1, .i x2, .l x3, .l x4, .l x5, .l x6] => f17_0_lp N (fun y1 y2 y3 y4 y5 y6 y7 => K (X.normal) (fill f17_0_ex1 [.b y1, .i y2, .i y3, .l y4, .l y5, .l y6, .l y7])) N x1 x2 x3 x4 x5 x6
 | _ => none
noncomputable def f17_raw {R : Type} (N : Nat) (key : List Int) (ctr : Int) (nonce : List Int) (b : List Int) (k : List DV → Option R) : Option R :=
 let v0 : Int := IntKind.i64.wrap (nI (rowLen 1 b) + 63);
let v1 : Int := IntKind.u64.wrap v0;
let v2 : Int := IntKind.u64.wrap (v1.tdiv 64);
bif Decidable.decide (v2 > 0) then
 let v3 : Int := IntKind.u64.wrap ctr;
 let v4 : Int := IntKind.u64.wrap (v3 + v2);
 let v5 : Int := IntKind.u64.wrap (v4 - 1);
 let v6 : Bool := bif Bool.true then Decidable.decide (v5 > 4294967295) else Bool.false;
 bif v6 then k [DV.lst (.one IntKind.u8) 1 [], DV.v (SV.one (At.int IntKind.i64 122))] else f17_0_lp N (fun w7_1 w7_2 w7_3 w7_4 w7_5 w7_6 w7_7 => k [DV.lst (.one IntKind.u8) 1 w7_4, DV.v (SV.one (At.int IntKind.i64 0))]) N ctr 0 [] b key nonce
else f17_0_lp N (fun w8_1 w8_2 w8_3 w8_4 w8_5 w8_6 w8_7 => k [DV.lst (.one IntKind.u8) 1 w8_4, DV.v (SV.one (At.int IntKind.i64 0))]) N ctr 0 [] b key nonce


noncomputable def E17 (N : Nat) : Env := { Θ := Th, Γ := Q17, K := K17, ν := N17, fuel := 0, lp := [(0, mkL N17_0 f17_0_sh (f17_0_F N)), (2, mkL N17_2 f17_2_sh (f17_2_F N))] }

theorem f17_2_st_eq {R : Type} (N : Nat) (K : X → AS → Option R) (n : Nat) (x1 : Int) (x2 : Int) (x3 : Int) (x4 : List Int) (x5 : List Int) (x6 : List Int) (x7 : List Int) (x8 : List Int) : roundsOf (E17 N) N17_2 2 B17_2 K (n + 1) (fill f17_2_sh [.i x1, .i x2, .i x3, .l x4, .l x5, .l x6, .l x7, .l x8]) = f17_2_st N (fun x1 x2 x3 x4 x5 x6 x7 x8 => roundsOf (E17 N) N17_2 2 B17_2 K n (fill f17_2_sh [.i x1, .i x2, .i x3, .l x4, .l x5, .l x6, .l x7, .l x8])) (fun y1 y2 y3 y4 y5 y6 y7 y8 y9 => K (X.normal) (fill f17_2_ex1 [.b y1, .i y2, .i y3, .i y4, .l y5, .l y6, .l y7, .l y8, .l y9])) x1 x2 x3 x4 x5 x6 x7 x8 := by kernel_rfl
theorem f17_2_lp_eq {R : Type} (N : Nat) (K : X → AS → Option R) : ∀ (n : Nat) (x1 : Int) (x2 : Int) (x3 : Int) (x4 : List Int) (x5 : List Int) (x6 : List Int) (x7 : List Int) (x8 : List Int), roundsOf (E17 N) N17_2 2 B17_2 K n (fill f17_2_sh [.i x1, .i x2, .i x3, .l x4, .l x5, .l x6, .l x7, .l x8]) = f17_2_lp N (fun y1 y2 y3 y4 y5 y6 y7 y8 y9 => K (X.normal) (fill f17_2_ex1 [.b y1, .i y2, .i y3, .i y4, .l y5, .l y6, .l y7, .l y8, .l y9])) n x1 x2 x3 x4 x5 x6 x7 x8
  | 0, _, _, _, _, _, _, _, _ => rfl
  | n + 1, x1, x2, x3, x4, x5, x6, x7, x8 => by
    rw [f17_2_st_eq, f17_2_lp, show (fun x1 x2 x3 x4 x5 x6 x7 x8 => roundsOf (E17 N) N17_2 2 B17_2 K n (fill f17_2_sh [.i x1, .i x2, .i x3, .l x4, .l x5, .l x6, .l x7, .l x8])) = f17_2_lp N (fun y1 y2 y3 y4 y5 y6 y7 y8 y9 => K (X.normal) (fill f17_2_ex1 [.b y1, .i y2, .i y3, .i y4, .l y5, .l y6, .l y7, .l y8, .l y9])) n from by funext x1 x2 x3 x4 x5 x6 x7 x8; exact f17_2_lp_eq N K n x1 x2 x3 x4 x5 x6 x7 x8]
theorem f17_2_ok (N : Nat) (hlp : LoopsOk Try.prog (E17 N).lp B17_2) (hΓ : CtxOk Try.prog (E17 N).Γ) : LoopOk Try.prog (mkL N17_2 f17_2_sh (f17_2_F N)) 2 B17_2 := by
  refine loopOk_of (E := E17 N) thOk hΓ mixed hlp ?_
  intro R ls K r h
  unfold f17_2_F at h
  split at h
  · exact ⟨N, by rw [f17_2_lp_eq]; exact h⟩
  · cases h
theorem f17_0_st_eq {R : Type} (N : Nat) (K : X → AS → Option R) (n : Nat) (x1 : Int) (x2 : Int) (x3 : List Int) (x4 : List Int) (x5 : List Int) (x6 : List Int) : roundsOf (E17 N) N17_0 0 B17_0 K (n + 1) (fill f17_0_sh [.i x1, .i x2, .l x3, .l x4, .l x5, .l x6]) = f17_0_st N (fun x1 x2 x3 x4 x5 x6 => roundsOf (E17 N) N17_0 0 B17_0 K n (fill f17_0_sh [.i x1, .i x2, .l x3, .l x4, .l x5, .l x6])) (fun y1 y2 y3 y4 y5 y6 y7 => K (X.normal) (fill f17_0_ex1 [.b y1, .i y2, .i y3, .l y4, .l y5, .l y6, .l y7])) x1 x2 x3 x4 x5 x6 := by kernel_rfl
theorem f17_0_lp_eq {R : Type} (N : Nat) (K : X → AS → Option R) : ∀ (n : Nat) (x1 : Int) (x2 : Int) (x3 : List Int) (x4 : List Int) (x5 : List Int) (x6 : List Int), roundsOf (E17 N) N17_0 0 B17_0 K n (fill f17_0_sh [.i x1, .i x2, .l x3, .l x4, .l x5, .l x6]) = f17_0_lp N (fun y1 y2 y3 y4 y5 y6 y7 => K (X.normal) (fill f17_0_ex1 [.b y1, .i y2, .i y3, .l y4, .l y5, .l y6, .l y7])) n x1 x2 x3 x4 x5 x6
  | 0, _, _, _, _, _, _ => rfl
  | n + 1, x1, x2, x3, x4, x5, x6 => by
    rw [f17_0_st_eq, f17_0_lp, show (fun x1 x2 x3 x4 x5 x6 => roundsOf (E17 N) N17_0 0 B17_0 K n (fill f17_0_sh [.i x1, .i x2, .l x3, .l x4, .l x5, .l x6])) = f17_0_lp N (fun y1 y2 y3 y4 y5 y6 y7 => K (X.normal) (fill f17_0_ex1 [.b y1, .i y2, .i y3, .l y4, .l y5, .l y6, .l y7])) n from by funext x1 x2 x3 x4 x5 x6; exact f17_0_lp_eq N K n x1 x2 x3 x4 x5 x6]
theorem f17_0_ok (N : Nat) (hlp : LoopsOk Try.prog (E17 N).lp B17_0) (hΓ : CtxOk Try.prog (E17 N).Γ) : LoopOk Try.prog (mkL N17_0 f17_0_sh (f17_0_F N)) 0 B17_0 := by
  refine loopOk_of (E := E17 N) thOk hΓ mixed hlp ?_
  intro R ls K r h
  unfold f17_0_F at h
  split at h
  · exact ⟨N, by rw [f17_0_lp_eq]; exact h⟩
  · cases h

theorem lok17_2 (N : Nat) (hΓ : CtxOk Try.prog Q17) : LoopOk Try.prog (mkL N17_2 f17_2_sh (f17_2_F N)) 2 B17_2 := f17_2_ok N (loopsOk_of (l := []) (by kernel_rfl) trivial) hΓ
theorem lok17_0 (N : Nat) (hΓ : CtxOk Try.prog Q17) : LoopOk Try.prog (mkL N17_0 f17_0_sh (f17_0_F N)) 0 B17_0 := f17_0_ok N (loopsOk_of (l := [(2, B17_2)]) (by kernel_rfl) (allOk_cons (L := mkL N17_2 f17_2_sh (f17_2_F N)) rfl (lok17_2 N hΓ) trivial)) hΓ
theorem f17_contract (N : Nat) (hΓ : CtxOk Try.prog Q17) : Contract Try.prog 17 { sig := S17, impl := fun _ ds k => call (E17 N) S17 71 B17 R17 ds k } :=
  call_contract (E := E17 N) thOk hΓ mixed ok17.look ok17.body ok17.n ok17.rv ok17.name rfl (by decide) (loopsOk_of (l := [(0, B17_0), (2, B17_2)]) (by kernel_rfl) (allOk_cons (L := mkL N17_0 f17_0_sh (f17_0_F N)) rfl (lok17_0 N hΓ) (allOk_cons (L := mkL N17_2 f17_2_sh (f17_2_F N)) rfl (lok17_2 N hΓ) trivial)))
theorem f17_raw_eq {R : Type} (N : Nat) (key : List Int) (ctr : Int) (nonce : List Int) (b : List Int) (k : List DV → Option R) : call (E17 N) S17 71 B17 R17 [.v (.one (.ints .u8 32 key)), .v (.one (.int .u32 ctr)), .v (.one (.ints .u8 12 nonce)), .lst (.one .u8) 1 b] k = f17_raw N key ctr nonce b k := by kernel_rfl
end Go.Proofs.Ytiaddnmloonhgaa

/- The document's stream is the program's. -/
namespace Go.Proofs.Ytiaddnmloonhgaa
open Go Go.Eng
set_option maxRecDepth 100000

theorem maskL_len (f : Nat → Int) (b : List Int) : (maskL f b).length = b.length := by simp [maskL]
theorem maskL_get (f : Nat → Int) (b : List Int) {n : Nat} (h : n < b.length) : (maskL f b)[n]? = some (xorI .u8 (b.getD n 0) (f n)) := by
  unfold maskL
  rw [List.getElem?_mapIdx, List.getD_eq_getElem?_getD, List.getElem?_eq_getElem h]; rfl
theorem maskL_take (f : Nat → Int) (b : List Int) {n : Nat} (h : n < b.length) : (maskL f b).take (n + 1) = (maskL f b).take n ++ [xorI .u8 (b.getD n 0) (f n)] := by
  rw [List.take_add_one, maskL_get f b h]; rfl
theorem one_app {n : Nat} (h : n ≤ 1099511627776) : (((2 * (n + 1) + 192) * 1).ble big48 && (n + 1).ble big48) = true := by
  rw [show ((2 * (n + 1) + 192) * 1).ble big48 = true from Nat.ble_eq_true_of_le (by unfold big48; omega), show (n + 1).ble big48 = true from Nat.ble_eq_true_of_le (by unfold big48; omega)]; rfl

theorem in_loop17 {R : Type} {N : Nat} (k1 : Bool → Int → Int → Int → List Int → List Int → List Int → List Int → List Int → Option R) (x1 : Int) {key nonce b : List Int} {c j E : Nat} (hb : b.length ≤ lim) (hE : E = min (64 * j + 64) b.length) :
    ∀ (m n : Nat), n + m = E → 64 * j ≤ n → ∀ fuel, m < fuel →
      f17_2_lp N k1 fuel x1 ((64 * j : Nat) : Int) (n : Int) ((maskL (maskAt key c nonce) b).take n) b key nonce (blockL key ((c + j : Nat) : Int) nonce) =
        k1 false x1 ((64 * j : Nat) : Int) (E : Int) ((maskL (maskAt key c nonce) b).take E) b key nonce (blockL key ((c + j : Nat) : Int) nonce) := by
  have hb' : b.length ≤ 1099511627776 := hb
  intro m
  induction m with
  | zero =>
    intro n h hj fuel hf
    obtain ⟨f, rfl⟩ : ∃ f, fuel = f + 1 := ⟨fuel - 1, by omega⟩
    have : n = E := by omega
    subst this
    show f17_2_st N (f17_2_lp N k1 f) k1 _ _ _ _ _ _ _ _ = _
    unfold f17_2_st
    have e0 : IntKind.i64.wrap (((64 * j : Nat) : Int) + 64) = ((64 * j + 64 : Nat) : Int) := wrapI (by omega) (by omega)
    dsimp only
    rw [e0]
    by_cases h1 : n < 64 * j + 64
    · rw [decide_eq_true (show (n : Int) < ((64 * j + 64 : Nat) : Int) by omega), cond_true, cond_true]
      rw [decide_eq_false (show ¬ ((n : Int) < nI (rowLen 1 b)) by show ¬ ((n : Int) < (b.length : Int)); omega)]
      rfl
    · rw [decide_eq_false (show ¬ ((n : Int) < ((64 * j + 64 : Nat) : Int)) by omega), cond_false]
  | succ m ih =>
    intro n h hj fuel hf
    obtain ⟨f, rfl⟩ : ∃ f, fuel = f + 1 := ⟨fuel - 1, by omega⟩
    show f17_2_st N (f17_2_lp N k1 f) k1 _ _ _ _ _ _ _ _ = _
    unfold f17_2_st
    have hn : n < b.length := by omega
    have e0 : IntKind.i64.wrap (((64 * j : Nat) : Int) + 64) = ((64 * j + 64 : Nat) : Int) := wrapI (by omega) (by omega)
    have e1 : IntKind.i64.wrap ((n : Int) - ((64 * j : Nat) : Int)) = ((n % 64 : Nat) : Int) := wrapI (by omega) (by omega)
    have e2 : IntKind.i64.wrap ((n : Int) + 1) = ((n + 1 : Nat) : Int) := wrapI (by omega) (by omega)
    dsimp only
    rw [e0, e1, e2, decide_eq_true (show (n : Int) < ((64 * j + 64 : Nat) : Int) by omega), decide_eq_true (show (n : Int) < nI (rowLen 1 b) by show (n : Int) < (b.length : Int); omega), decide_eq_true (show (0 : Int) ≤ (n : Int) by omega), decide_eq_true (show (0 : Int) ≤ ((n % 64 : Nat) : Int) by omega), decide_eq_true (show ((n % 64 : Nat) : Int) < 64 by omega)]
    simp only [Bool.and_self, cond_true, mulE_one, Int.toNat_natCast]
    rw [one_set, show rowLen 1 ((maskL (maskAt key c nonce) b).take n) + rowLen 1 [xorI .u8 (b.getD n 0) ((blockL key ((c + j : Nat) : Int) nonce).getD (n % 64) 0)] = n + 1 from by
      show ((maskL (maskAt key c nonce) b).take n).length + 1 = n + 1
      rw [List.length_take, maskL_len]; omega]
    rw [one_app (by omega), cond_true]
    have hf2 : (blockL key ((c + j : Nat) : Int) nonce).getD (n % 64) 0 = maskAt key c nonce n := by
      unfold maskAt
      rw [show n / 64 = j by omega]
    rw [hf2, ← maskL_take _ _ hn]
    exact ih (n + 1) (by omega) (by omega) f (by omega)

theorem out_loop17 {R : Type} {N : Nat} (k1 : Bool → Int → Int → List Int → List Int → List Int → List Int → Option R) {key nonce b : List Int} {c : Nat} (hb : b.length ≤ lim) (hN : 64 < N) (hk : okN 32 key = true) (hn : okN 12 nonce = true) (hc : c + (b.length + 63) / 64 ≤ 4294967296) :
    ∀ (m j : Nat), b.length ≤ 64 * (j + m) → ∀ fuel, m < fuel → ∃ e : Int, f17_0_lp N k1 fuel (c : Int) ((64 * j : Nat) : Int) ((maskL (maskAt key c nonce) b).take (64 * j)) b key nonce = k1 false (c : Int) e (maskL (maskAt key c nonce) b) b key nonce := by
  have hb' : b.length ≤ 1099511627776 := hb
  have done : ∀ (j fuel : Nat), b.length ≤ 64 * j → 0 < fuel → ∃ e : Int, f17_0_lp N k1 fuel (c : Int) ((64 * j : Nat) : Int) ((maskL (maskAt key c nonce) b).take (64 * j)) b key nonce = k1 false (c : Int) e (maskL (maskAt key c nonce) b) b key nonce := by
    intro j fuel h hf
    obtain ⟨f, rfl⟩ : ∃ f, fuel = f + 1 := ⟨fuel - 1, by omega⟩
    refine ⟨((64 * j : Nat) : Int), ?_⟩
    show f17_0_st N (f17_0_lp N k1 f) k1 _ _ _ _ _ _ = _
    unfold f17_0_st
    rw [decide_eq_false (show ¬ (((64 * j : Nat) : Int) < nI (rowLen 1 b)) by show ¬ (((64 * j : Nat) : Int) < (b.length : Int)); omega), cond_false, List.take_of_length_le (by rw [maskL_len]; omega)]
  intro m
  induction m with
  | zero => intro j h fuel hf; exact done j fuel (by omega) hf
  | succ m ih =>
    intro j h fuel hf
    by_cases hl : b.length ≤ 64 * j
    · exact done j fuel hl (by omega)
    · obtain ⟨f, rfl⟩ : ∃ f, fuel = f + 1 := ⟨fuel - 1, by omega⟩
      obtain ⟨e, he⟩ := ih (j + 1) (by omega) f (by omega)
      refine ⟨e, ?_⟩
      rw [← he]
      show f17_0_st N (f17_0_lp N k1 f) k1 _ _ _ _ _ _ = _
      unfold f17_0_st
      have e0 : IntKind.i64.wrap ((((64 * j : Nat) : Int)).tdiv 64) = ((j : Nat) : Int) := by
        rw [show (((64 * j : Nat) : Int)).tdiv 64 = ((64 * j / 64 : Nat) : Int) from rfl]; exact wrapI (by omega) (by omega)
      have e1 : IntKind.u32.wrap ((j : Nat) : Int) = ((j : Nat) : Int) := w32 (by omega)
      have e2 : IntKind.u32.wrap ((c : Int) + ((j : Nat) : Int)) = ((c + j : Nat) : Int) := by
        rw [show (c : Int) + ((j : Nat) : Int) = ((c + j : Nat) : Int) by omega]; exact w32 (by omega)
      rw [decide_eq_true (show ((64 * j : Nat) : Int) < nI (rowLen 1 b) by show ((64 * j : Nat) : Int) < (b.length : Int); omega), cond_true, hk, hn]
      dsimp only
      rw [e0, e1, e2]
      simp only [Bool.and_self, cond_true]
      refine (in_loop17 (N := N) _ (c : Int) hb (E := min (64 * j + 64) b.length) rfl (min (64 * j + 64) b.length - 64 * j) (64 * j) (by omega) (Nat.le_refl _) N (by omega)).trans ?_
      have e3 : IntKind.i64.wrap (((64 * j : Nat) : Int) + 64) = ((64 * (j + 1) : Nat) : Int) := wrapI (by omega) (by omega)
      rw [e3]
      have e4 : (maskL (maskAt key c nonce) b).take (min (64 * j + 64) b.length) = (maskL (maskAt key c nonce) b).take (64 * (j + 1)) := by
        by_cases h2 : 64 * j + 64 ≤ b.length
        · rw [Nat.min_eq_left h2, show 64 * (j + 1) = 64 * j + 64 by omega]
        · rw [Nat.min_eq_right (by omega), List.take_of_length_le (by rw [maskL_len]; omega), List.take_of_length_le (by rw [maskL_len]; omega)]
      rw [e4]

theorem f17_spec {R : Type} {key nonce b : List Int} {c : Nat} (hb : b.length ≤ lim) (hk : okN 32 key = true) (hn : okN 12 nonce = true) (hc : c < 4294967296) (k : List DV → Option R) :
    f17_raw (b.length + 70) key (c : Int) nonce b k = cond (tooFar c b.length) (k [.lst (.one .u8) 1 [], .v (.one (.int .i64 122))]) (k [.lst (.one .u8) 1 (streamL key c nonce b), .v (.one (.int .i64 0))]) := by
  have hb' : b.length ≤ 1099511627776 := hb
  unfold f17_raw
  have e0 : IntKind.i64.wrap (nI (rowLen 1 b) + 63) = ((b.length + 63 : Nat) : Int) := wrapI (show ((b.length : Nat) : Int) + 63 = _ by omega) (by omega)
  have e1 : IntKind.u64.wrap ((b.length + 63 : Nat) : Int) = ((b.length + 63 : Nat) : Int) := w64 (by omega)
  have e2 : IntKind.u64.wrap ((((b.length + 63 : Nat) : Int)).tdiv 64) = (((b.length + 63) / 64 : Nat) : Int) := by
    rw [show (((b.length + 63 : Nat) : Int)).tdiv 64 = (((b.length + 63) / 64 : Nat) : Int) from rfl]; exact w64 (by omega)
  have e3 : IntKind.u64.wrap (c : Int) = (c : Int) := w64 (by omega)
  have e4 : IntKind.u64.wrap ((c : Int) + (((b.length + 63) / 64 : Nat) : Int)) = ((c + (b.length + 63) / 64 : Nat) : Int) := by
    rw [show (c : Int) + (((b.length + 63) / 64 : Nat) : Int) = ((c + (b.length + 63) / 64 : Nat) : Int) by omega]; exact w64 (by omega)
  dsimp only
  rw [e0, e1, e2, e3, e4]
  have run : tooFar c b.length = false → f17_0_lp (b.length + 70) (fun w7_1 w7_2 w7_3 w7_4 w7_5 w7_6 w7_7 => k [DV.lst (.one IntKind.u8) 1 w7_4, DV.v (SV.one (At.int IntKind.i64 0))]) (b.length + 70) (c : Int) 0 [] b key nonce = k [.lst (.one .u8) 1 (streamL key c nonce b), .v (.one (.int .i64 0))] := by
    intro ht
    unfold tooFar at ht
    have ht := of_decide_eq_false ht
    obtain ⟨e, he⟩ := out_loop17 (N := b.length + 70) (fun w7_1 w7_2 w7_3 w7_4 w7_5 w7_6 w7_7 => k [DV.lst (.one IntKind.u8) 1 w7_4, DV.v (SV.one (At.int IntKind.i64 0))]) (c := c) hb (by omega) hk hn (by omega) b.length 0 (by omega) (b.length + 70) (by omega)
    exact he
  by_cases h0 : (b.length + 63) / 64 = 0
  · have ht : tooFar c b.length = false := by unfold tooFar; rw [decide_eq_false]; omega
    rw [decide_eq_false (show ¬ ((((b.length + 63) / 64 : Nat) : Int) > 0) by omega), cond_false, ht, cond_false]
    exact run ht
  · rw [decide_eq_true (show (((b.length + 63) / 64 : Nat) : Int) > 0 by omega), cond_true, cond_true]
    have e5 : IntKind.u64.wrap (((c + (b.length + 63) / 64 : Nat) : Int) - 1) = ((c + (b.length + 63) / 64 - 1 : Nat) : Int) := by
      rw [show ((c + (b.length + 63) / 64 : Nat) : Int) - 1 = ((c + (b.length + 63) / 64 - 1 : Nat) : Int) by omega]; exact w64 (by omega)
    rw [e5]
    have e6 : decide (((c + (b.length + 63) / 64 - 1 : Nat) : Int) > 4294967295) = tooFar c b.length := by
      unfold tooFar
      exact decide_eq_decide.2 (by omega)
    rw [e6]
    cases ht : tooFar c b.length with
    | true => rfl
    | false => exact run ht

def I17 : (R : Type) → List DV → (List DV → Option R) → Option R := fun _ ds k => match ds with
  | [.v (.one (.ints .u8 32 key)), .v (.one (.int .u32 ctr)), .v (.one (.ints .u8 12 nonce)), .lst (.one .u8) 1 b] =>
    cond ((okN 32 key && okN 12 nonce) && (decide (0 ≤ ctr) && (decide (ctr < 4294967296) && Nat.ble b.length lim)))
      (cond (tooFar ctr.toNat b.length) (k [.lst (.one .u8) 1 [], .v (.one (.int .i64 122))]) (k [.lst (.one .u8) 1 (streamL key ctr.toNat nonce b), .v (.one (.int .i64 0))])) none
  | _ => none
theorem c17 : Contract Try.prog 17 { sig := S17, impl := I17 } := by
  refine Contract.refine fun R ds k r h => ?_
  unfold I17 at h
  split at h
  · rename_i key ctr nonce b
    refine ⟨_, f17_contract (b.length + 70) Q17_ok, ?_⟩
    cases hc : ((okN 32 key && okN 12 nonce) && (decide (0 ≤ ctr) && (decide (ctr < 4294967296) && Nat.ble b.length lim))) with
    | true =>
      rw [hc] at h
      simp only [Bool.and_eq_true, decide_eq_true_eq] at hc
      obtain ⟨⟨h1, h2⟩, h3, h4, h5⟩ := hc
      obtain ⟨c, rfl⟩ : ∃ c : Nat, ctr = c := ⟨ctr.toNat, by omega⟩
      rw [f17_raw_eq, f17_spec (Nat.le_of_ble_eq_true h5) h1 h2 (by omega)]
      exact h
    | false => rw [hc] at h; cases h
  · exact (Option.some_ne_none _ h.symm).elim
end Go.Proofs.Ytiaddnmloonhgaa

/- The document's tag of bytes is the program's. -/
namespace Go.Proofs.Ytiaddnmloonhgaa
open Go Go.Eng
set_option maxRecDepth 100000
set_option linter.unusedVariables false

/-! the bytes of a number -/
def outM (A : List Int) : List Int := (List.range 16).map fun i => IntKind.u8.wrap (shrI .u32 (A.getD (i / 4) 0) ((8 * (i % 4) : Nat) : Int))
theorem digs_four {a v m : Nat} (ha : a < 4294967296) : digs 256 (m + 4) (a + 4294967296 * v) = a % 256 :: a / 256 % 256 :: a / 65536 % 256 :: a / 16777216 % 256 :: digs 256 m v := by
  simp only [digs]
  rw [show (a + 4294967296 * v) % 256 = a % 256 by omega, show (a + 4294967296 * v) / 256 % 256 = a / 256 % 256 by omega, show (a + 4294967296 * v) / 256 / 256 % 256 = a / 65536 % 256 by omega, show (a + 4294967296 * v) / 256 / 256 / 256 % 256 = a / 16777216 % 256 by omega, show (a + 4294967296 * v) / 256 / 256 / 256 / 256 = v by omega]
theorem byteN {a r : Nat} (hr : r ≤ 24) : IntKind.u8.wrap (shrI .u32 (a : Int) (r : Int)) = ((a / 2 ^ r % 256 : Nat) : Int) := by
  rw [shrN (k := .u32) (m := r) (show r ≤ 32 by omega), wm8]
theorem out_bytes {V : Nat} : outM (nuU V) = nats (digs 256 16 V) := by
  rw [nuU_def]
  have hv := digs_val 4294967296 5 V
  have hl := digs_length 4294967296 5 V
  have hd : ∀ x ∈ digs 4294967296 5 V, x < 4294967296 := digs_lt (by decide)
  generalize digs 4294967296 5 V = D at *
  match D, hl with
  | [a0, a1, a2, a3, a4], _ =>
    have h0 := hd a0 (by simp)
    have h1 := hd a1 (by simp)
    have h2 := hd a2 (by simp)
    have h3 := hd a3 (by simp)
    have e : digs 256 16 V = digs 256 16 (a0 + 4294967296 * (a1 + 4294967296 * (a2 + 4294967296 * (a3 + 4294967296 * a4)))) := by
      have hh : valB 4294967296 [a0, a1, a2, a3, a4] = a0 + 4294967296 * (a1 + 4294967296 * (a2 + 4294967296 * (a3 + 4294967296 * a4))) := by simp [valB]
      rw [hh] at hv
      rw [hv, ← digs_mod 256 16 V, ← digs_mod 256 16 (V % 4294967296 ^ 5)]
      rw [show (4294967296 : Nat) ^ 5 = 256 ^ 16 * 4294967296 from by decide, Nat.mod_mul_right_mod]
    rw [e, show (16 : Nat) = 12 + 4 from rfl, digs_four h0, show (12 : Nat) = 8 + 4 from rfl, digs_four h1, show (8 : Nat) = 4 + 4 from rfl, digs_four h2, show (4 : Nat) = 0 + 4 from rfl, digs_four h3]
    show [IntKind.u8.wrap (shrI .u32 (a0 : Int) ((0 : Nat) : Int)), IntKind.u8.wrap (shrI .u32 (a0 : Int) ((8 : Nat) : Int)), IntKind.u8.wrap (shrI .u32 (a0 : Int) ((16 : Nat) : Int)), IntKind.u8.wrap (shrI .u32 (a0 : Int) ((24 : Nat) : Int)),
      IntKind.u8.wrap (shrI .u32 (a1 : Int) ((0 : Nat) : Int)), IntKind.u8.wrap (shrI .u32 (a1 : Int) ((8 : Nat) : Int)), IntKind.u8.wrap (shrI .u32 (a1 : Int) ((16 : Nat) : Int)), IntKind.u8.wrap (shrI .u32 (a1 : Int) ((24 : Nat) : Int)),
      IntKind.u8.wrap (shrI .u32 (a2 : Int) ((0 : Nat) : Int)), IntKind.u8.wrap (shrI .u32 (a2 : Int) ((8 : Nat) : Int)), IntKind.u8.wrap (shrI .u32 (a2 : Int) ((16 : Nat) : Int)), IntKind.u8.wrap (shrI .u32 (a2 : Int) ((24 : Nat) : Int)),
      IntKind.u8.wrap (shrI .u32 (a3 : Int) ((0 : Nat) : Int)), IntKind.u8.wrap (shrI .u32 (a3 : Int) ((8 : Nat) : Int)), IntKind.u8.wrap (shrI .u32 (a3 : Int) ((16 : Nat) : Int)), IntKind.u8.wrap (shrI .u32 (a3 : Int) ((24 : Nat) : Int))] = _
    simp only [byteN (show 0 ≤ 24 by decide), byteN (show 8 ≤ 24 by decide), byteN (show 16 ≤ 24 by decide), byteN (show 24 ≤ 24 by decide), Nat.pow_zero, Nat.div_one, show (2 : Nat) ^ 8 = 256 from rfl, show (2 : Nat) ^ 16 = 65536 from rfl, p24]
    rfl

/-! the number of the first half -/
theorem setAnd_len (x : List Int) (i : Nat) (m : Int) : (setAnd x i m).length = x.length := by simp [setAnd]
theorem setAnd_take {x : List Int} {i n : Nat} (h : i < n) (m : Int) : (setAnd x i m).take n = setAnd (x.take n) i m := by
  unfold setAnd
  rw [List.take_set]
  congr 1
  rw [List.getD_eq_getElem?_getD, List.getD_eq_getElem?_getD, List.getElem?_take, if_pos h]
theorem setAnd_app {x z : List Int} {i : Nat} (h : i < x.length) (m : Int) : setAnd (x ++ z) i m = setAnd x i m ++ z := by
  unfold setAnd
  rw [List.set_append_left _ _ h]
  congr 2
  rw [List.getD_eq_getElem?_getD, List.getD_eq_getElem?_getD, List.getElem?_append_left h]
theorem clamp_take (x : List Int) : (clampB (clampA x)).take 16 = clampB (clampA (x.take 16)) := by
  unfold clampB clampA
  simp only [setAnd_take (n := 16) (show 3 < 16 by decide), setAnd_take (n := 16) (show 7 < 16 by decide), setAnd_take (n := 16) (show 11 < 16 by decide), setAnd_take (n := 16) (show 15 < 16 by decide), setAnd_take (n := 16) (show 4 < 16 by decide), setAnd_take (n := 16) (show 8 < 16 by decide), setAnd_take (n := 16) (show 12 < 16 by decide)]
theorem clamp_app {x z : List Int} (h : x.length = 16) : clampB (clampA (x ++ z)) = clampB (clampA x) ++ z := by
  unfold clampB clampA
  rw [setAnd_app (by omega), setAnd_app (by simp only [setAnd_len]; omega), setAnd_app (by simp only [setAnd_len]; omega), setAnd_app (by simp only [setAnd_len]; omega), setAnd_app (by simp only [setAnd_len]; omega), setAnd_app (by simp only [setAnd_len]; omega), setAnd_app (by simp only [setAnd_len]; omega)]
theorem clamp_len (x : List Int) : (clampB (clampA x)).length = x.length := by unfold clampB clampA; simp only [setAnd_len]
theorem half_ref {key : List Nat} (h : ∀ y ∈ key, y < 256) (hk : key.length = 32) : ∃ X : List Nat, (clampB (clampA (nats key))).take 16 = nats X ∧ X.length = 16 ∧ (∀ y ∈ X, y < 256) ∧ valB 256 X = rOf key := by
  have l16 : (key.take 16).length = 16 := by rw [List.length_take]; omega
  have h16 : ∀ y ∈ key.take 16, y < 256 := fun y hy => h y (List.mem_of_mem_take hy)
  obtain ⟨e1, e2⟩ := clamp_nat h16
  have hlen : (clampN (key.take 16)).length = 16 := by
    have := congrArg List.length e1
    rw [clamp_len, nats_length, nats_length, l16] at this
    exact this.symm
  refine ⟨clampN (key.take 16), ?_, hlen, e2, ?_⟩
  · rw [clamp_take, nats_take]; exact e1
  · unfold rOf
    have h0 : ∀ y ∈ key.take 16 ++ [0], y < 256 := by
      intro y hy
      rcases List.mem_append.1 hy with hy | hy
      · exact h16 y hy
      · simp at hy; omega
    obtain ⟨f1, f2⟩ := clamp_nat h0
    have : nats (clampN (key.take 16 ++ [0])) = nats (clampN (key.take 16) ++ [0]) := by
      rw [← f1, nats_append, clamp_app (by rw [nats_length]; exact l16), e1, nats_append]
    rw [nats_inj.1 this, valB_append]
    have hlt := valB_lt (b := 256) (by decide) e2
    rw [hlen] at hlt
    have h128 : (256 : Nat) ^ 16 ≤ 2 ^ 130 := by decide
    rw [show valB 256 [0] = 0 from by simp [valB], Nat.mul_zero, Nat.add_zero, Nat.mod_eq_of_lt (Nat.lt_of_lt_of_le hlt h128)]

/-! the pieces -/
theorem f25_loop {R : Type} {N : Nat} (k1 : Bool → Int → List Int → List Int → List Int → List Int → List Int → Option R) (x3 x4 : List Int) {l : List Nat} {r : Nat} (hl : l.length ≤ lim) (hd : ∀ x ∈ l, x < 256) (hr : r < 2 ^ 130) :
    ∀ (m i v : Nat), m = (l.length - i + 15) / 16 → v < p1305 → ∀ fuel, m < fuel → ∃ (e : Int) (v' : Nat), v' < p1305 ∧ v' % p1305 = polyGo r l m i v % p1305 ∧
      f25_4_lp N k1 fuel (i : Int) (nats l) x3 x4 (nuU r) (nuU v) = k1 false e (nats l) x3 x4 (nuU r) (nuU v') := by
  have hp := p1305_lt
  have hp0 : 0 < p1305 := by decide
  have hl' : l.length ≤ 1099511627776 := hl
  intro m
  induction m with
  | zero =>
    intro i v hm hv fuel hf
    obtain ⟨f, rfl⟩ : ∃ f, fuel = f + 1 := ⟨fuel - 1, by omega⟩
    refine ⟨(i : Int), v, hv, rfl, ?_⟩
    show f25_4_st N (f25_4_lp N k1 f) k1 _ _ _ _ _ _ = _
    unfold f25_4_st
    rw [show nI (rowLen 1 (nats l)) = (l.length : Int) from by show (((nats l).length : Nat) : Int) = _; rw [nats_length], decide_eq_false (by omega), cond_false]
  | succ m ih =>
    intro i v hm hv fuel hf
    obtain ⟨f, rfl⟩ : ∃ f, fuel = f + 1 := ⟨fuel - 1, by omega⟩
    have hil : i < l.length := by omega
    -- the piece
    have hpl : ((l.drop i).take 16).length ≤ 16 := List.length_take_le _ _
    have hpd : ∀ x ∈ (l.drop i).take 16 ++ [1], x < 256 := by
      intro x hx
      rcases List.mem_append.1 hx with hx | hx
      · exact hd x (List.mem_of_mem_drop (List.mem_of_mem_take hx))
      · simp at hx; omega
    have hpv : valB 256 ((l.drop i).take 16 ++ [1]) = pv ((l.drop i).take 16) := by
      unfold pv
      rw [valB_append]; simp [valB]
    have hpvl : pv ((l.drop i).take 16) < 256 ^ 17 := by
      rw [← hpv]
      refine Nat.lt_of_lt_of_le (valB_lt (b := 256) (by decide) hpd) (Nat.pow_le_pow_right (by decide) ?_)
      rw [List.length_append]; simp only [List.length_singleton]; omega
    obtain ⟨e, v', g1, g2, g3⟩ := ih (i + 16) ((v + pv ((l.drop i).take 16)) * r % p1305) (by omega) (Nat.mod_lt _ hp0) f (by omega)
    refine ⟨e, v', g1, ?_, ?_⟩
    · rw [g2, polyGo]
      exact polyGo_mod p1305 r l m (i + 16) _ _ (Nat.mod_mod _ _)
    · rw [← g3]
      show f25_4_st N (f25_4_lp N k1 f) k1 _ _ _ _ _ _ = _
      unfold f25_4_st
      have hlen : rowLen 1 (nats l) = l.length := nats_length l
      have e0 : IntKind.i64.wrap ((i : Int) + 16) = ((i + 16 : Nat) : Int) := by
        rw [show (i : Int) + 16 = ((i + 16 : Nat) : Int) by omega]; exact wi64 (by omega)
      have hmin : minI ((i + 16 : Nat) : Int) (nI l.length) = ((min (i + 16) l.length : Nat) : Int) := by
        unfold minI
        by_cases h2 : l.length < i + 16
        · rw [if_pos (show nI l.length < ((i + 16 : Nat) : Int) by show (l.length : Int) < _; omega), Nat.min_eq_right (by omega)]
        · rw [if_neg (show ¬ (nI l.length < ((i + 16 : Nat) : Int)) by show ¬ ((l.length : Int) < _); omega), Nat.min_eq_left (by omega)]
      dsimp only
      rw [hlen, decide_eq_true (show (i : Int) < nI l.length by show (i : Int) < (l.length : Int); omega), cond_true, e0, hmin, hiOk_nat (by omega), cond_true]
      rw [show loOk (some (i : Int)) (hiInt (some ((min (i + 16) l.length : Nat) : Int)) l.length) = true from loOk_nat (by show (i : Int) ≤ ((min (i + 16) l.length : Nat) : Int); omega), cond_true, sub_nat]
      have hpiece : (List.drop i (nats l)).take (min (i + 16) l.length - i) = nats ((l.drop i).take 16) := by
        rw [nats_drop, nats_take]
        congr 1
        by_cases h2 : l.length < i + 16
        · rw [Nat.min_eq_right (by omega), List.take_of_length_le (by rw [List.length_drop]; omega), List.take_of_length_le (by rw [List.length_drop]; omega)]
        · rw [Nat.min_eq_left (by omega), show i + 16 - i = 16 by omega]
      rw [hpiece, one_set, show nats ((l.drop i).take 16) ++ [1] = nats ((l.drop i).take 16 ++ [1]) from by rw [nats_append]; rfl]
      rw [show rowLen 1 (nats ((l.drop i).take 16)) = ((l.drop i).take 16).length from nats_length _, show rowLen 1 ([1] : List Int) = 1 from rfl]
      rw [show (((l.drop i).take 16).length * 1).ble big48 = true from Nat.ble_eq_true_of_le (by unfold big48; omega), show (((l.drop i).take 16).length).ble big48 = true from Nat.ble_eq_true_of_le (by unfold big48; omega), Bool.and_self, cond_true, one_app (by omega), cond_true]
      have hok : okY 20 (nats ((l.drop i).take 16 ++ [1])) = true := okY_mk (by rw [nats_length, List.length_append]; simp only [List.length_singleton]; omega) (by
        intro b hb
        unfold nats at hb
        obtain ⟨n, hn, rfl⟩ := List.mem_map.mp hb
        have := hpd n hn
        exact ⟨Int.natCast_nonneg n, by show (n : Int) < 256; omega⟩)
      have h17 : (256 : Nat) ^ 17 = 87112285931760246646623899502532662132736 := by decide
      rw [h17] at hpvl
      rw [hok, cond_true, numY_nats, hpv, okU_nuU, okU_nuU, numU_nuU (v := v) (Nat.lt_trans hv (Nat.lt_of_lt_of_le hp (by decide))), numU_nuU (v := pv ((l.drop i).take 16)) (Nat.lt_of_lt_of_le hpvl (by decide)), Bool.true_and, Bool.true_and, decide_eq_true (show v + pv ((l.drop i).take 16) < 1461501637330902918203684832716283019655932542976 by omega), cond_true]
      have h160 : (2 : Nat) ^ 160 = 1461501637330902918203684832716283019655932542976 := by decide
      rw [okU_nuU, okU_nuU, Bool.and_self, cond_true, numU_nuU (v := v + pv ((l.drop i).take 16)) (by rw [h160]; omega), numU_nuU (v := r) (Nat.lt_of_lt_of_le hr (by decide))]
end Go.Proofs.Ytiaddnmloonhgaa

/- The document's tag: its contract. -/
namespace Go.Proofs.Ytiaddnmloonhgaa
open Go Go.Eng
set_option maxRecDepth 100000
set_option linter.unusedVariables false

theorem f25_spec {R : Type} {key l : List Nat} (hk : ∀ y ∈ key, y < 256) (hkl : key.length = 32) (hl : l.length ≤ lim) (hd : ∀ x ∈ l, x < 256) (k : List DV → Option R) :
    f25_raw (l.length + 2) (nats key) (nats l) k = k [.v (.one (.ints .u8 16 (macL (nats key) (nats l))))] := by
  have hp := p1305_lt
  obtain ⟨X, x1, x2, x3, x4⟩ := half_ref hk hkl
  unfold f25_raw
  dsimp only
  have hv : Go.Eng.sub (clampB (clampA (nats key))) (plusO Off.z 1 Option.none) (mulE (Go.Eng.subN (hiNat (Option.some 16) 32) Option.none) 1) = nats X := x1
  have hcl : List.set (List.set (List.set (List.set (List.set (List.set (List.set (nats key) 3 (andI .u8 ((nats key).getD 3 0) 15)) 7 (andI .u8 ((setAnd (nats key) 3 15).getD 7 0) 15)) 11 (andI .u8 ((setAnd (setAnd (nats key) 3 15) 7 15).getD 11 0) 15)) 15 (andI .u8 ((setAnd (setAnd (setAnd (nats key) 3 15) 7 15) 11 15).getD 15 0) 15)) 4 (andI .u8 ((clampA (nats key)).getD 4 0) 252)) 8 (andI .u8 ((setAnd (clampA (nats key)) 4 252).getD 8 0) 252)) 12 (andI .u8 ((setAnd (setAnd (clampA (nats key)) 4 252) 8 252).getD 12 0) 252) = clampB (clampA (nats key)) := rfl
  have goal : ∀ z : List Int, z = nats X → (bif okY 20 z then f25_4_lp (l.length + 2)
      (fun w20_1 w20_2 w20_3 w20_4 w20_5 w20_6 w20_7 =>
        bif okY 20 (Go.Eng.sub w20_4 (plusO Off.z 1 (Option.some 16)) (mulE (Go.Eng.subN (hiNat Option.none 32) (Option.some 16)) 1)) then
        bif okU w20_7 && (okU (nuU (numY (Go.Eng.sub w20_4 (plusO Off.z 1 (Option.some 16)) (mulE (Go.Eng.subN (hiNat Option.none 32) (Option.some 16)) 1)))) && Decidable.decide (numU w20_7 + numU (nuU (numY (Go.Eng.sub w20_4 (plusO Off.z 1 (Option.some 16)) (mulE (Go.Eng.subN (hiNat Option.none 32) (Option.some 16)) 1)))) < 1461501637330902918203684832716283019655932542976)) then
        k [.v (.one (.ints .u8 16 (outM (nuU (numU w20_7 + numU (nuU (numY (Go.Eng.sub w20_4 (plusO Off.z 1 (Option.some 16)) (mulE (Go.Eng.subN (hiNat Option.none 32) (Option.some 16)) 1)))))))))]
        else none else none) (l.length + 2) 0 (nats l) (nats key) (List.replicate 16 0) (nuU (numY z)) (List.replicate 5 0) else none) = k [.v (.one (.ints .u8 16 (macL (nats key) (nats l))))] := by
    rintro z rfl
    have hr : rOf key < 2 ^ 130 := Nat.mod_lt _ (by decide)
    have hX : okY 20 (nats X) = true := okY_mk (by rw [nats_length]; omega) (by
      intro b hb
      unfold nats at hb
      obtain ⟨n, hn, rfl⟩ := List.mem_map.mp hb
      have := x3 n hn
      exact ⟨Int.natCast_nonneg n, by show (n : Int) < 256; omega⟩)
    rw [hX, cond_true, numY_nats, x4, show List.replicate 5 0 = nuU 0 from by rw [nuU_def]; decide]
    obtain ⟨e, v', g1, g2, g3⟩ := f25_loop (N := l.length + 2) (fun w20_1 w20_2 w20_3 w20_4 w20_5 w20_6 w20_7 =>
        bif okY 20 (Go.Eng.sub w20_4 (plusO Off.z 1 (Option.some 16)) (mulE (Go.Eng.subN (hiNat Option.none 32) (Option.some 16)) 1)) then
        bif okU w20_7 && (okU (nuU (numY (Go.Eng.sub w20_4 (plusO Off.z 1 (Option.some 16)) (mulE (Go.Eng.subN (hiNat Option.none 32) (Option.some 16)) 1)))) && Decidable.decide (numU w20_7 + numU (nuU (numY (Go.Eng.sub w20_4 (plusO Off.z 1 (Option.some 16)) (mulE (Go.Eng.subN (hiNat Option.none 32) (Option.some 16)) 1)))) < 1461501637330902918203684832716283019655932542976)) then
        k [.v (.one (.ints .u8 16 (outM (nuU (numU w20_7 + numU (nuU (numY (Go.Eng.sub w20_4 (plusO Off.z 1 (Option.some 16)) (mulE (Go.Eng.subN (hiNat Option.none 32) (Option.some 16)) 1)))))))))]
        else none else none) (nats key) (List.replicate 16 0) hl hd hr ((l.length + 15) / 16) 0 0 (by omega) (by decide) (l.length + 2) (by omega)
    refine Eq.trans g3 ?_
    have hs : Go.Eng.sub (nats key) (plusO Off.z 1 (Option.some 16)) (mulE (Go.Eng.subN (hiNat Option.none 32) (Option.some 16)) 1) = nats (key.drop 16) := by
      rw [← nats_drop]
      show List.take 16 (List.drop 16 (nats key)) = _
      exact List.take_of_length_le (by rw [List.length_drop, nats_length]; omega)
    have hsd : ∀ x ∈ key.drop 16, x < 256 := fun x hx => hk x (List.mem_of_mem_drop hx)
    have hS : okY 20 (nats (key.drop 16)) = true := okY_mk (by rw [nats_length, List.length_drop]; omega) (by
      intro b hb
      unfold nats at hb
      obtain ⟨n, hn, rfl⟩ := List.mem_map.mp hb
      have := hsd n hn
      exact ⟨Int.natCast_nonneg n, by show (n : Int) < 256; omega⟩)
    have hSl : valB 256 (key.drop 16) < 340282366920938463463374607431768211456 := by
      have := valB_lt (b := 256) (by decide) hsd
      rw [List.length_drop, hkl] at this
      exact Nat.lt_of_lt_of_le this (by decide)
    have h160 : (2 : Nat) ^ 160 = 1461501637330902918203684832716283019655932542976 := by decide
    rw [hs, hS, cond_true, numY_nats, okU_nuU, okU_nuU, numU_nuU (v := v') (by rw [h160]; omega), numU_nuU (v := valB 256 (key.drop 16)) (by rw [h160]; omega), Bool.true_and, Bool.true_and, decide_eq_true (show v' + valB 256 (key.drop 16) < 1461501637330902918203684832716283019655932542976 by omega), cond_true]
    rw [out_bytes, mac_nat hk hkl hd]
    unfold macN
    rw [← g2, Nat.mod_eq_of_lt g1]
  refine Eq.trans ?_ (goal (clampB (clampA (nats key)) |>.take 16) x1)
  kernel_rfl
end Go.Proofs.Ytiaddnmloonhgaa

/- What the engine is told of this seat. MADE BY PROGRAM (wip/tools/facts.py). -/
namespace Go.Proofs.Ytiaddnmloonhgaa
open Go Go.Eng

set_option maxRecDepth 100000

def Th2 : Types := [(3, ⟨.int .i64, 1, 8, [.int .i64 0]⟩),
  (4, ⟨.bool, 1, 1, [.bool false]⟩),
  (5, ⟨.int .u8, 1, 1, [.int .u8 0]⟩),
  (23, ⟨.array 32 5, 32, 32, [.ints .u8 32 (List.replicate 32 0)]⟩),
  (24, ⟨.int .u32, 1, 4, [.int .u32 0]⟩),
  (26, ⟨.array 12 5, 12, 12, [.ints .u8 12 (List.replicate 12 0)]⟩),
  (27, ⟨.slice 5, 1, 24, [.nils]⟩),
  (28, ⟨.slice 27, 1, 24, [.nils]⟩),
  (29, ⟨.slice 105, 1, 24, [.nils]⟩),
  (30, ⟨.slice 100, 1, 24, [.nils]⟩),
  (31, ⟨.slice 108, 1, 24, [.nils]⟩),
  (32, ⟨.slice 110, 1, 24, [.nils]⟩),
  (33, ⟨.slice 112, 1, 24, [.nils]⟩),
  (34, ⟨.slice 114, 1, 24, [.nils]⟩),
  (35, ⟨.slice 116, 1, 24, [.nils]⟩),
  (36, ⟨.slice 118, 1, 24, [.nils]⟩),
  (37, ⟨.slice 120, 1, 24, [.nils]⟩),
  (38, ⟨.slice 122, 1, 24, [.nils]⟩),
  (39, ⟨.slice 124, 1, 24, [.nils]⟩),
  (40, ⟨.slice 126, 1, 24, [.nils]⟩),
  (41, ⟨.slice 128, 1, 24, [.nils]⟩),
  (42, ⟨.slice 130, 1, 24, [.nils]⟩),
  (44, ⟨.struct [(28, 0), (28, 1), (29, 2), (29, 3), (30, 4), (30, 5), (31, 6), (31, 7), (32, 8), (32, 9), (33, 10), (33, 11), (34, 12), (34, 13), (35, 14), (35, 15), (36, 16), (36, 17), (37, 18), (37, 19), (38, 20), (38, 21), (39, 22), (39, 23), (40, 24), (40, 25), (41, 26), (41, 27), (42, 28), (42, 29)], 30, 720, [.nils, .nils, .nils, .nils, .nils, .nils, .nils, .nils, .nils, .nils, .nils, .nils, .nils, .nils, .nils, .nils, .nils, .nils, .nils, .nils, .nils, .nils, .nils, .nils, .nils, .nils, .nils, .nils, .nils, .nils]⟩),
  (46, ⟨.int .i64, 1, 8, [.int .i64 0]⟩),
  (51, ⟨.array 64 5, 64, 64, [.ints .u8 64 (List.replicate 64 0)]⟩),
  (58, ⟨.array 16 5, 16, 16, [.ints .u8 16 (List.replicate 16 0)]⟩),
  (66, ⟨.struct [(23, 0), (26, 32), (27, 44), (27, 45), (27, 46), (3, 47), (5, 48)], 49, 136, [.ints .u8 32 (List.replicate 32 0), .ints .u8 12 (List.replicate 12 0), .nils, .nils, .nils, .int .i64 0, .int .u8 0]⟩),
  (70, ⟨.int .u64, 1, 8, [.int .u64 0]⟩),
  (100, ⟨.slice 24, 1, 24, [.nils]⟩),
  (105, ⟨.slice 3, 1, 24, [.nils]⟩),
  (108, ⟨.slice 147, 1, 24, [.nils]⟩),
  (110, ⟨.slice 148, 1, 24, [.nils]⟩),
  (112, ⟨.slice 149, 1, 24, [.nils]⟩),
  (114, ⟨.slice 150, 1, 24, [.nils]⟩),
  (116, ⟨.slice 151, 1, 24, [.nils]⟩),
  (118, ⟨.slice 153, 1, 24, [.nils]⟩),
  (120, ⟨.slice 154, 1, 24, [.nils]⟩),
  (122, ⟨.slice 155, 1, 24, [.nils]⟩),
  (124, ⟨.slice 157, 1, 24, [.nils]⟩),
  (126, ⟨.slice 159, 1, 24, [.nils]⟩),
  (128, ⟨.slice 161, 1, 24, [.nils]⟩),
  (130, ⟨.slice 163, 1, 24, [.nils]⟩),
  (147, ⟨.array 32 5, 32, 32, [.ints .u8 32 (List.replicate 32 0)]⟩),
  (148, ⟨.array 32 5, 32, 32, [.ints .u8 32 (List.replicate 32 0)]⟩),
  (149, ⟨.array 32 5, 32, 32, [.ints .u8 32 (List.replicate 32 0)]⟩),
  (150, ⟨.array 32 5, 32, 32, [.ints .u8 32 (List.replicate 32 0)]⟩),
  (151, ⟨.array 32 5, 32, 32, [.ints .u8 32 (List.replicate 32 0)]⟩),
  (153, ⟨.struct [(3, 0), (148, 1)], 33, 40, [.int .i64 0, .ints .u8 32 (List.replicate 32 0)]⟩),
  (154, ⟨.struct [(3, 0), (148, 1)], 33, 40, [.int .i64 0, .ints .u8 32 (List.replicate 32 0)]⟩),
  (155, ⟨.struct [(3, 0), (148, 1)], 33, 40, [.int .i64 0, .ints .u8 32 (List.replicate 32 0)]⟩),
  (157, ⟨.struct [(3, 0), (149, 1), (149, 33)], 65, 72, [.int .i64 0, .ints .u8 32 (List.replicate 32 0), .ints .u8 32 (List.replicate 32 0)]⟩),
  (159, ⟨.struct [(3, 0), (149, 1)], 33, 40, [.int .i64 0, .ints .u8 32 (List.replicate 32 0)]⟩),
  (161, ⟨.struct [(3, 0), (3, 1), (148, 2)], 34, 48, [.int .i64 0, .int .i64 0, .ints .u8 32 (List.replicate 32 0)]⟩),
  (163, ⟨.struct [(3, 0), (3, 1)], 2, 16, [.int .i64 0, .int .i64 0]⟩)]

theorem thOk2 : TypesOk Try.prog Th2 := tysB_ok (by kernel_rfl)

/-- what hangs on a pointer that was handed in -/
def hiL : List Nat := [0, hiN, hiN + 1, hiN + 2, hiN + 3, hiN + 4, hiN + 5, hiN + 6, hiN + 7, hiN + 8, hiN + 9, hiN + 10, hiN + 11]

/-- (*rime/rimeplain.Given).Bytes -/
noncomputable def B15 : Code := (Try.f15.body.getD .skip)
def S15 : Sig := { ps := [.mt, .view (.one .u8) 1], rs := [.fresh (.one .u8) 1] }
def R15 : List ResultVar := [.tmp 4]
def K15 : List Nat := [0, 1, 4, 5, 6, 7, 15, 26]
def N15_2 : Nrm := { slots := [.tmp 0, .tmp 1, .tmp 5, .tmp 7], items := [1, 11] }
def N15_0 : Nrm := { slots := [.tmp 0, .tmp 1, .tmp 5, .tmp 6], items := [1, 11] }
noncomputable def B15_2 : Code := bodyIn 2 (loopsIn B15)
noncomputable def B15_0 : Code := bodyIn 0 (loopsIn B15)
def N15 : Nrms := [(2, N15_2), (0, N15_0)]
theorem ok15 : FnOk Try.prog 15 Try.f15 61 B15 R15 := ⟨by kernel_rfl, by kernel_rfl, by kernel_rfl, by kernel_rfl, by decide +kernel⟩

/-- (*rime/rimeplain.Given).Intact -/
noncomputable def B22 : Code := (Try.f22.body.getD .skip)
def S22 : Sig := { ps := [.mt], rs := [.val] }
def R22 : List ResultVar := [.tmp 2]
def K22 : List Nat := [0, 2, 3, 4, 5, 6, 7, 8, 9, 10, 11, 12, 13, 14, 15, 16, 17, 24, 42, 49, 67, 74, 92, 99, 117, 124, 142, 149, 167, 174, 192, 199, 217, 224, 242, 249, 267, 274, 292, 299, 317, 324, 342, 349, 367, 374, 392]
def N22_28 : Nrm := { slots := [.tmp 0, .tmp 17], items := hiL }
def N22_26 : Nrm := { slots := [.tmp 0, .tmp 16], items := hiL }
def N22_24 : Nrm := { slots := [.tmp 0, .tmp 15], items := hiL }
def N22_22 : Nrm := { slots := [.tmp 0, .tmp 14], items := hiL }
def N22_20 : Nrm := { slots := [.tmp 0, .tmp 13], items := hiL }
def N22_18 : Nrm := { slots := [.tmp 0, .tmp 12], items := hiL }
def N22_16 : Nrm := { slots := [.tmp 0, .tmp 11], items := hiL }
def N22_14 : Nrm := { slots := [.tmp 0, .tmp 10], items := hiL }
def N22_12 : Nrm := { slots := [.tmp 0, .tmp 9], items := hiL }
def N22_10 : Nrm := { slots := [.tmp 0, .tmp 8], items := hiL }
def N22_8 : Nrm := { slots := [.tmp 0, .tmp 7], items := hiL }
def N22_6 : Nrm := { slots := [.tmp 0, .tmp 6], items := hiL }
def N22_4 : Nrm := { slots := [.tmp 0, .tmp 5], items := hiL }
def N22_2 : Nrm := { slots := [.tmp 0, .tmp 4], items := hiL }
def N22_0 : Nrm := { slots := [.tmp 0, .tmp 3], items := hiL }
noncomputable def B22_28 : Code := bodyIn 28 (loopsIn B22)
noncomputable def B22_26 : Code := bodyIn 26 (loopsIn B22)
noncomputable def B22_24 : Code := bodyIn 24 (loopsIn B22)
noncomputable def B22_22 : Code := bodyIn 22 (loopsIn B22)
noncomputable def B22_20 : Code := bodyIn 20 (loopsIn B22)
noncomputable def B22_18 : Code := bodyIn 18 (loopsIn B22)
noncomputable def B22_16 : Code := bodyIn 16 (loopsIn B22)
noncomputable def B22_14 : Code := bodyIn 14 (loopsIn B22)
noncomputable def B22_12 : Code := bodyIn 12 (loopsIn B22)
noncomputable def B22_10 : Code := bodyIn 10 (loopsIn B22)
noncomputable def B22_8 : Code := bodyIn 8 (loopsIn B22)
noncomputable def B22_6 : Code := bodyIn 6 (loopsIn B22)
noncomputable def B22_4 : Code := bodyIn 4 (loopsIn B22)
noncomputable def B22_2 : Code := bodyIn 2 (loopsIn B22)
noncomputable def B22_0 : Code := bodyIn 0 (loopsIn B22)
def N22 : Nrms := [(28, N22_28), (26, N22_26), (24, N22_24), (22, N22_22), (20, N22_20), (18, N22_18), (16, N22_16), (14, N22_14), (12, N22_12), (10, N22_10), (8, N22_8), (6, N22_6), (4, N22_4), (2, N22_2), (0, N22_0)]
theorem ok22 : FnOk Try.prog 22 Try.f22 393 B22 R22 := ⟨by kernel_rfl, by kernel_rfl, by kernel_rfl, by kernel_rfl, by decide +kernel⟩

/-- rime/rimeplain.markBytes -/
noncomputable def B41 : Code := (Try.f41.body.getD .skip)
def S41 : Sig := { ps := [.val, .val], rs := [.val] }
def R41 : List ResultVar := [.tmp 4]
def K41 : List Nat := [0, 1, 4]
def N41 : Nrms := []
theorem ok41 : FnOk Try.prog 41 Try.f41 12 B41 R41 := ⟨by kernel_rfl, by kernel_rfl, by kernel_rfl, by kernel_rfl, by decide +kernel⟩

/-- rime/rimelaw12.SealBlocks -/
noncomputable def B3 : Code := (Try.f3.body.getD .skip)
def S3 : Sig := { ps := [.val, .val, .val, .view (.one .u8) 1], rs := [.val] }
def R3 : List ResultVar := [.tmp 8]
def K3 : List Nat := [1, 3, 4, 6, 8, 9, 10, 11, 12, 13, 14]
def N3 : Nrms := []
theorem ok3 : FnOk Try.prog 3 Try.f3 59 B3 R3 := ⟨by kernel_rfl, by kernel_rfl, by kernel_rfl, by kernel_rfl, by decide +kernel⟩

/-- rime/rimelaw12.SealMacs -/
noncomputable def B4 : Code := (Try.f4.body.getD .skip)
def S4 : Sig := { ps := [.val, .view (.one .u8) 1], rs := [.val] }
def R4 : List ResultVar := [.tmp 4]
def K4 : List Nat := [1, 2, 4, 5]
def N4 : Nrms := []
theorem ok4 : FnOk Try.prog 4 Try.f4 20 B4 R4 := ⟨by kernel_rfl, by kernel_rfl, by kernel_rfl, by kernel_rfl, by decide +kernel⟩

/-- rime/rimelaw12.SealSeals -/
noncomputable def B5 : Code := (Try.f5.body.getD .skip)
def S5 : Sig := { ps := [.val, .val, .view (.one .u8) 1, .view (.one .u8) 1], rs := [.val] }
def R5 : List ResultVar := [.tmp 8]
def K5 : List Nat := [2, 3, 4, 5, 8, 9, 10, 11, 12, 13, 14, 15]
def N5 : Nrms := []
theorem ok5 : FnOk Try.prog 5 Try.f5 64 B5 R5 := ⟨by kernel_rfl, by kernel_rfl, by kernel_rfl, by kernel_rfl, by decide +kernel⟩

/-- rime/rimelaw12.SealUnboxes -/
noncomputable def B11 : Code := (Try.f11.body.getD .skip)
def S11 : Sig := { ps := [.val, .view (.one .u8) 1, .view (.one .u8) 1], rs := [.val] }
def R11 : List ResultVar := [.tmp 6]
def K11 : List Nat := [1, 2, 3, 6, 7, 8, 9, 10, 11, 12, 13]
def N11 : Nrms := []
theorem ok11 : FnOk Try.prog 11 Try.f11 52 B11 R11 := ⟨by kernel_rfl, by kernel_rfl, by kernel_rfl, by kernel_rfl, by decide +kernel⟩

end Go.Proofs.Ytiaddnmloonhgaa

/- What rime/rimeplain.markBytes comes to. MADE BY PROGRAM (wip/tools/mkfn.py, EngGen.lean). -/
namespace Go.Proofs.Ytiaddnmloonhgaa
open Go Go.Eng
set_option maxRecDepth 100000
set_option linter.unusedVariables false

noncomputable def f41_raw {R : Type} (N : Nat) (i : Int) (j : Int) (k : List DV → Option R) : Option R :=
 let v0 : Int := IntKind.i64.wrap (i * 31);
let v1 : Int := IntKind.i64.wrap (j * 7);
let v2 : Int := IntKind.i64.wrap (v0 + v1);
let v3 : Int := IntKind.i64.wrap (v2 + 5);
let v4 : Int := IntKind.u8.wrap v3;
k [DV.v (SV.one (At.int IntKind.u8 v4))]


noncomputable def E41 (N : Nat) : Env := { Θ := Th, Γ := [], K := K41, ν := N41, fuel := 0, lp := [] }


theorem f41_contract (N : Nat) (hΓ : CtxOk Try.prog []) : Contract Try.prog 41 { sig := S41, impl := fun _ ds k => call (E41 N) S41 12 B41 R41 ds k } :=
  call_contract (E := E41 N) thOk hΓ mixed ok41.look ok41.body ok41.n ok41.rv ok41.name rfl (by decide) (loopsOk_of (l := []) (by kernel_rfl) trivial)
theorem f41_raw_eq {R : Type} (N : Nat) (i : Int) (j : Int) (k : List DV → Option R) : call (E41 N) S41 12 B41 R41 [.v (.one (.int .i64 i)), .v (.one (.int .i64 j))] k = f41_raw N i j k := by kernel_rfl
end Go.Proofs.Ytiaddnmloonhgaa

/- Marks; contexts for Given. -/
namespace Go.Proofs.Ytiaddnmloonhgaa
open Go Go.Eng
set_option maxRecDepth 100000
noncomputable def I41 : (R : Type) → List DV → (List DV → Option R) → Option R := fun _ ds k => match ds with
  | [.v (.one (.int .i64 i)), .v (.one (.int .i64 j))] => k [.v (.one (.int .u8 (markI i j)))]
  | _ => none
theorem c41 : Contract Try.prog 41 { sig := S41, impl := I41 } := by
  refine Contract.refine fun R ds k r h => ⟨_, f41_contract 0 ctxOk_nil, ?_⟩
  unfold I41 at h
  split at h
  · rw [f41_raw_eq]; exact h
  · cases h
noncomputable def QB0 : Ctx := (41, { sig := S41, impl := I41 }) :: (30, { sig := S30, impl := I30 }) :: (20, { sig := S20, impl := I20 }) :: []
theorem QB0_ok : CtxOk Try.prog QB0 := ctxOk_cons ok41 rfl c41 (ctxOk_cons ok30 rfl c30 (ctxOk_cons ok20 rfl c20 ctxOk_nil))
end Go.Proofs.Ytiaddnmloonhgaa

/- What (*rime/rimeplain.Given).Bytes comes to. MADE BY PROGRAM (wip/tools/mkfn.py, EngGen.lean). -/
namespace Go.Proofs.Ytiaddnmloonhgaa
open Go Go.Eng
set_option maxRecDepth 100000
set_option linter.unusedVariables false

def f15_0_sh : Shp := { n := 61, lo := 2, slots := [(0, .one (.fix (At.ptr 0 0 Off.z 30))), (1, .one (.fix (At.own 1))), (5, .one (.fix (At.own 11))), (6, .one (.int IntKind.i64))], items := [(1, .view (.one IntKind.u8) 1), (11, .row (.one IntKind.u8) 1)] }
def f15_0_ex1 : Shp := { n := 61, lo := 2, slots := [(15, .one (.bool)), (0, .one (.fix (At.ptr 0 0 Off.z 30))), (1, .one (.fix (At.own 1))), (5, .one (.fix (At.own 11))), (6, .one (.int IntKind.i64))], items := [(1, .view (.one IntKind.u8) 1), (11, .row (.one IntKind.u8) 1)] }
noncomputable def f15_0_st {R : Type} (N : Nat) (self : Int → List Int → List Int → Option R) (k1 : Bool → Int → List Int → List Int → Option R) (x1 : Int) (x2 : List Int) (x3 : List Int) : Option R :=
 bif Decidable.decide (x1 < nI (rowLen 1 x3)) then
 bif Decidable.decide (0 ≤ x1) && Decidable.decide (x1 < nI (rowLen 1 x3)) then
 let v0 : Int := IntKind.i64.wrap (x1 + 1);
 let v1 : List Int := x3.set (mulE x1.toNat 1) (markI 987 x1);
 self v0 x2 v1
 else Option.none
else k1 (Decidable.decide (x1 < nI (rowLen 1 x3))) x1 x2 x3
noncomputable def f15_0_lp {R : Type} (N : Nat) (k1 : Bool → Int → List Int → List Int → Option R) : Nat → Int → List Int → List Int → Option R
 | 0, _, _, _ => none
 | n + 1, x1, x2, x3 => f15_0_st N (f15_0_lp N k1 n) k1 x1 x2 x3
noncomputable def f15_0_F (N : Nat) : (R : Type) → List Leaf → (X → AS → Option R) → Option R := fun _ ls K => match ls with
 | [.i x1, .l x2, .l x3] => f15_0_lp N (fun y1 y2 y3 y4 => K (X.normal) (fill f15_0_ex1 [.b y1, .i y2, .l y3, .l y4])) N x1 x2 x3
 | _ => none
def f15_2_sh : Shp := { n := 61, lo := 2, slots := [(0, .one (.fix (At.ptr 0 0 Off.z 30))), (1, .one (.fix (At.own 1))), (5, .one (.fix (At.own 11))), (7, .one (.int IntKind.i64))], items := [(1, .view (.one IntKind.u8) 1), (11, .row (.one IntKind.u8) 1)] }
def f15_2_ex1 : Shp := { n := 61, lo := 2, slots := [(26, .one (.bool)), (0, .one (.fix (At.ptr 0 0 Off.z 30))), (1, .one (.fix (At.own 1))), (5, .one (.fix (At.own 11))), (7, .one (.int IntKind.i64))], items := [(1, .view (.one IntKind.u8) 1), (11, .row (.one IntKind.u8) 1)] }
noncomputable def f15_2_st {R : Type} (N : Nat) (self : Int → List Int → List Int → Option R) (k1 : Bool → Int → List Int → List Int → Option R) (x1 : Int) (x2 : List Int) (x3 : List Int) : Option R :=
 bif Decidable.decide (x1 < nI (rowLen 1 x2)) then
 bif Decidable.decide (0 ≤ x1) && Decidable.decide (x1 < nI (rowLen 1 x2)) then
 bif Decidable.decide (0 ≤ x1) && Decidable.decide (x1 < nI (rowLen 1 x3)) then
 let v0 : Int := IntKind.i64.wrap (x1 + 1);
 let v1 : List Int := x3.set (mulE x1.toNat 1) (x2.getD (mulE x1.toNat 1) 0);
 self v0 x2 v1
 else Option.none
 else Option.none
else k1 (Decidable.decide (x1 < nI (rowLen 1 x2))) x1 x2 x3
noncomputable def f15_2_lp {R : Type} (N : Nat) (k1 : Bool → Int → List Int → List Int → Option R) : Nat → Int → List Int → List Int → Option R
 | 0, _, _, _ => none
 | n + 1, x1, x2, x3 => f15_2_st N (f15_2_lp N k1 n) k1 x1 x2 x3
noncomputable def f15_2_F (N : Nat) : (R : Type) → List Leaf → (X → AS → Option R) → Option R := fun _ ls K => match ls with
 | [.i x1, .l x2, .l x3] => f15_2_lp N (fun y1 y2 y3 y4 => K (X.normal) (fill f15_2_ex1 [.b y1, .i y2, .l y3, .l y4])) N x1 x2 x3
 | _ => none
noncomputable def f15_raw {R : Type} (N : Nat) (x : List Int) (k : List DV → Option R) : Option R :=
 let v0 : Int := IntKind.i64.wrap (nI (rowLen 1 x) + 3);
bif Decidable.decide (0 ≤ v0) && (Decidable.decide (v0 ≤ v0) && (Decidable.decide (v0 ≤ 281474976710656) && Decidable.decide (v0 * 1 ≤ 281474976710656))) then f15_0_lp N (fun w1_1 w1_2 w1_3 w1_4 => f15_2_lp N (fun w2_1 w2_2 w2_3 w2_4 => Option.none) N 0 w1_3 w1_4) N 0 x (zerosOf (mulE v0.toNat 1)) else Option.none


noncomputable def E15 (N : Nat) : Env := { Θ := Th2, Γ := QB0, K := K15, ν := N15, fuel := 0, lp := [(0, mkL N15_0 f15_0_sh (f15_0_F N)), (2, mkL N15_2 f15_2_sh (f15_2_F N))] }

theorem f15_0_st_eq {R : Type} (N : Nat) (K : X → AS → Option R) (n : Nat) (x1 : Int) (x2 : List Int) (x3 : List Int) : roundsOf (E15 N) N15_0 0 B15_0 K (n + 1) (fill f15_0_sh [.i x1, .l x2, .l x3]) = f15_0_st N (fun x1 x2 x3 => roundsOf (E15 N) N15_0 0 B15_0 K n (fill f15_0_sh [.i x1, .l x2, .l x3])) (fun y1 y2 y3 y4 => K (X.normal) (fill f15_0_ex1 [.b y1, .i y2, .l y3, .l y4])) x1 x2 x3 := by kernel_rfl
theorem f15_0_lp_eq {R : Type} (N : Nat) (K : X → AS → Option R) : ∀ (n : Nat) (x1 : Int) (x2 : List Int) (x3 : List Int), roundsOf (E15 N) N15_0 0 B15_0 K n (fill f15_0_sh [.i x1, .l x2, .l x3]) = f15_0_lp N (fun y1 y2 y3 y4 => K (X.normal) (fill f15_0_ex1 [.b y1, .i y2, .l y3, .l y4])) n x1 x2 x3
  | 0, _, _, _ => rfl
  | n + 1, x1, x2, x3 => by
    rw [f15_0_st_eq, f15_0_lp, show (fun x1 x2 x3 => roundsOf (E15 N) N15_0 0 B15_0 K n (fill f15_0_sh [.i x1, .l x2, .l x3])) = f15_0_lp N (fun y1 y2 y3 y4 => K (X.normal) (fill f15_0_ex1 [.b y1, .i y2, .l y3, .l y4])) n from by funext x1 x2 x3; exact f15_0_lp_eq N K n x1 x2 x3]
theorem f15_0_ok (N : Nat) (hlp : LoopsOk Try.prog (E15 N).lp B15_0) (hΓ : CtxOk Try.prog (E15 N).Γ) : LoopOk Try.prog (mkL N15_0 f15_0_sh (f15_0_F N)) 0 B15_0 := by
  refine loopOk_of (E := E15 N) thOk2 hΓ mixed hlp ?_
  intro R ls K r h
  unfold f15_0_F at h
  split at h
  · exact ⟨N, by rw [f15_0_lp_eq]; exact h⟩
  · cases h
theorem f15_2_st_eq {R : Type} (N : Nat) (K : X → AS → Option R) (n : Nat) (x1 : Int) (x2 : List Int) (x3 : List Int) : roundsOf (E15 N) N15_2 2 B15_2 K (n + 1) (fill f15_2_sh [.i x1, .l x2, .l x3]) = f15_2_st N (fun x1 x2 x3 => roundsOf (E15 N) N15_2 2 B15_2 K n (fill f15_2_sh [.i x1, .l x2, .l x3])) (fun y1 y2 y3 y4 => K (X.normal) (fill f15_2_ex1 [.b y1, .i y2, .l y3, .l y4])) x1 x2 x3 := by kernel_rfl
theorem f15_2_lp_eq {R : Type} (N : Nat) (K : X → AS → Option R) : ∀ (n : Nat) (x1 : Int) (x2 : List Int) (x3 : List Int), roundsOf (E15 N) N15_2 2 B15_2 K n (fill f15_2_sh [.i x1, .l x2, .l x3]) = f15_2_lp N (fun y1 y2 y3 y4 => K (X.normal) (fill f15_2_ex1 [.b y1, .i y2, .l y3, .l y4])) n x1 x2 x3
  | 0, _, _, _ => rfl
  | n + 1, x1, x2, x3 => by
    rw [f15_2_st_eq, f15_2_lp, show (fun x1 x2 x3 => roundsOf (E15 N) N15_2 2 B15_2 K n (fill f15_2_sh [.i x1, .l x2, .l x3])) = f15_2_lp N (fun y1 y2 y3 y4 => K (X.normal) (fill f15_2_ex1 [.b y1, .i y2, .l y3, .l y4])) n from by funext x1 x2 x3; exact f15_2_lp_eq N K n x1 x2 x3]
theorem f15_2_ok (N : Nat) (hlp : LoopsOk Try.prog (E15 N).lp B15_2) (hΓ : CtxOk Try.prog (E15 N).Γ) : LoopOk Try.prog (mkL N15_2 f15_2_sh (f15_2_F N)) 2 B15_2 := by
  refine loopOk_of (E := E15 N) thOk2 hΓ mixed hlp ?_
  intro R ls K r h
  unfold f15_2_F at h
  split at h
  · exact ⟨N, by rw [f15_2_lp_eq]; exact h⟩
  · cases h

theorem lok15_2 (N : Nat) (hΓ : CtxOk Try.prog QB0) : LoopOk Try.prog (mkL N15_2 f15_2_sh (f15_2_F N)) 2 B15_2 := f15_2_ok N (loopsOk_of (l := []) (by kernel_rfl) trivial) hΓ
theorem lok15_0 (N : Nat) (hΓ : CtxOk Try.prog QB0) : LoopOk Try.prog (mkL N15_0 f15_0_sh (f15_0_F N)) 0 B15_0 := f15_0_ok N (loopsOk_of (l := []) (by kernel_rfl) trivial) hΓ
theorem f15_loops (N : Nat) (hΓ : CtxOk Try.prog QB0) : LoopsOk Try.prog (E15 N).lp B15 := loopsOk_of (l := [(0, B15_0), (2, B15_2)]) (by kernel_rfl) (allOk_cons (L := mkL N15_0 f15_0_sh (f15_0_F N)) rfl (lok15_0 N hΓ) (allOk_cons (L := mkL N15_2 f15_2_sh (f15_2_F N)) rfl (lok15_2 N hΓ) trivial))
theorem f15_raw_eq {R : Type} (N : Nat) (x : List Int) (k : List DV → Option R) : exec (E15 N) B15 ({ n := 61, lo := 2, tmps := [(0, .s (.one (.ptr 0 0 .z 30))), (1, .s (.one (.own 1)))], items := [(1, .view (.one .u8) 1 x)] }) (retK Th2 { ps := [], rs := [.val] } [] R15 k) = f15_raw N x k := by kernel_rfl
end Go.Proofs.Ytiaddnmloonhgaa

/- Given: what is handed in is copied, with marks behind it; is it all as it was? -/
namespace Go.Proofs.Ytiaddnmloonhgaa
open Go Go.Eng
set_option maxRecDepth 100000


theorem given_marks {R : Type} {N : Nat} (k1 : Bool → Int → List Int → List Int → Option R) (y xs : List Int) (hb : xs.length ≤ limG) :
    ∀ (m i : Nat), i + m = xs.length → ∀ fuel, m < fuel → f15_0_lp N k1 fuel (i : Int) y (fillG (fun (j : Nat) => markI 987 (j : Int)) i xs) = k1 false (xs.length : Int) y (marksG xs.length) := by
  have hb' : xs.length ≤ 1099511627776 := hb
  intro m
  induction m with
  | zero =>
    intro i h fuel hf
    obtain ⟨f, rfl⟩ : ∃ f, fuel = f + 1 := ⟨fuel - 1, by omega⟩
    have : i = xs.length := by omega
    subst this
    show f15_0_st N (f15_0_lp N _ f) _ _ _ _ = _
    unfold f15_0_st
    rw [fillG_marks]
    rw [show decide (((xs.length : Nat) : Int) < nI (rowLen 1 (marksG xs.length))) = false by simp [by_rowLen, marksG_length], cond_false]
  | succ m ih =>
    intro i h fuel hf
    obtain ⟨f, rfl⟩ : ∃ f, fuel = f + 1 := ⟨fuel - 1, by omega⟩
    show f15_0_st N (f15_0_lp N _ f) _ _ _ _ = _
    unfold f15_0_st
    have h1 : decide ((i : Int) < nI (rowLen 1 (fillG (fun (j : Nat) => markI 987 (j : Int)) i xs))) = true := by simp [by_rowLen, fillG_length]; omega
    have h4 : IntKind.i64.wrap ((i : Int) + 1) = ((i + 1 : Nat) : Int) := by_wrap (n := i + 1) (by omega)
    simp only [h1, h4, by_mulE, Int.toNat_natCast]
    rw [show (decide ((0 : Int) ≤ (i : Int)) && true) = true by simp, cond_true, cond_true]
    rw [fillG_set (fun (j : Nat) => markI 987 (j : Int)), ih (i + 1) (by omega) f (by omega)]

theorem given_copy {R : Type} {N : Nat} (k1 : Bool → Int → List Int → List Int → Option R) (y xs : List Int) (hb : y.length ≤ limG) (hl : y.length ≤ xs.length) :
    ∀ (m i : Nat), i + m = y.length → ∀ fuel, m < fuel → f15_2_lp N k1 fuel (i : Int) y (fillG (fun (j : Nat) => y.getD j 0) i xs) = k1 false (y.length : Int) y (overG y xs) := by
  have hb' : y.length ≤ 1099511627776 := hb
  intro m
  induction m with
  | zero =>
    intro i h fuel hf
    obtain ⟨f, rfl⟩ : ∃ f, fuel = f + 1 := ⟨fuel - 1, by omega⟩
    have : i = y.length := by omega
    subst this
    show f15_2_st N (f15_2_lp N _ f) _ _ _ _ = _
    unfold f15_2_st
    rw [show decide (((y.length : Nat) : Int) < nI (rowLen 1 y)) = false by simp [by_rowLen], cond_false]
    rfl
  | succ m ih =>
    intro i h fuel hf
    obtain ⟨f, rfl⟩ : ∃ f, fuel = f + 1 := ⟨fuel - 1, by omega⟩
    show f15_2_st N (f15_2_lp N _ f) _ _ _ _ = _
    unfold f15_2_st
    have h1 : decide ((i : Int) < nI (rowLen 1 y)) = true := by simp [by_rowLen]; omega
    have h2 : decide ((i : Int) < nI (rowLen 1 (fillG (fun (j : Nat) => y.getD j 0) i xs))) = true := by simp [by_rowLen, fillG_length]; omega
    have h4 : IntKind.i64.wrap ((i : Int) + 1) = ((i + 1 : Nat) : Int) := by_wrap (n := i + 1) (by omega)
    simp only [h1, h2, h4, by_mulE, Int.toNat_natCast]
    rw [show (decide ((0 : Int) ≤ (i : Int)) && true) = true by simp, cond_true, cond_true, cond_true]
    rw [fillG_set (fun (j : Nat) => y.getD j 0), ih (i + 1) (by omega) f (by omega)]

noncomputable def L15_0 : LoopFn := mkLF N15_0 f15_0_sh fun _ ls K => match ls with
  | [.i x1, .l x2, .l x3] => bif decide (x1 = 0) && Nat.ble x3.length limG then K X.normal (fill f15_0_ex1 [.b false, .i (nI x3.length), .l x2, .l (marksG x3.length)]) else none
  | _ => none
noncomputable def L15_2 : LoopFn := mkLF N15_2 f15_2_sh fun _ ls K => match ls with
  | [.i x1, .l x2, .l x3] => bif decide (x1 = 0) && (Nat.ble x2.length limG && Nat.ble x2.length x3.length) then K X.normal (fill f15_2_ex1 [.b false, .i (nI x2.length), .l x2, .l (overG x2 x3)]) else none
  | _ => none
theorem L15_0_ok : LoopOk Try.prog L15_0 0 B15_0 := by
  refine loopOkF_of (E := E15 0) thOk2 QB0_ok mixed (loopsOk_of (l := []) (by kernel_rfl) trivial) ?_
  intro R ls K r h
  split at h
  · rename_i x1 x2 x3
    refine ⟨x3.length + 1, ?_⟩
    rw [f15_0_lp_eq]
    cases hc : decide (x1 = 0) && Nat.ble x3.length limG with
    | true =>
      rw [hc] at h
      rw [Bool.and_eq_true] at hc
      have := given_marks (N := 0) (fun y1 y2 y3 y4 => K X.normal (fill f15_0_ex1 [.b y1, .i y2, .l y3, .l y4])) x2 x3 (Nat.le_of_ble_eq_true hc.2) x3.length 0 (by omega) (x3.length + 1) (by omega)
      rw [fillG_zero] at this
      rw [of_decide_eq_true hc.1]
      exact this.trans h
    | false => rw [hc] at h; cases h
  · cases h
theorem L15_2_ok : LoopOk Try.prog L15_2 2 B15_2 := by
  refine loopOkF_of (E := E15 0) thOk2 QB0_ok mixed (loopsOk_of (l := []) (by kernel_rfl) trivial) ?_
  intro R ls K r h
  split at h
  · rename_i x1 x2 x3
    refine ⟨x2.length + 1, ?_⟩
    rw [f15_2_lp_eq]
    cases hc : decide (x1 = 0) && (Nat.ble x2.length limG && Nat.ble x2.length x3.length) with
    | true =>
      rw [hc] at h
      rw [Bool.and_eq_true, Bool.and_eq_true] at hc
      have := given_copy (N := 0) (fun y1 y2 y3 y4 => K X.normal (fill f15_2_ex1 [.b y1, .i y2, .l y3, .l y4])) x2 x3 (Nat.le_of_ble_eq_true hc.2.1) (Nat.le_of_ble_eq_true hc.2.2) x2.length 0 (by omega) (x2.length + 1) (by omega)
      rw [fillG_zero] at this
      rw [of_decide_eq_true hc.1]
      exact this.trans h
    | false => rw [hc] at h; cases h
  · cases h

noncomputable def EG15 : Env := { Θ := Th2, Γ := QB0, K := K15, ν := [], fuel := 0, lp := [(0, L15_0), (2, L15_2)] }
noncomputable def G15 : FI := { sig := { ps := [], rs := [] }, impl := fun _ ds k => callN EG15 2 61 B15 R15 ds k, kind := .inl 2 }
theorem cG15 : Contract Try.prog 15 G15 := inl_contract (E := EG15) thOk2 QB0_ok mixed ok15 (loopsOk_of (l := [(0, B15_0), (2, B15_2)]) (by kernel_rfl) (allOk_cons (L := L15_0) rfl L15_0_ok (allOk_cons (L := L15_2) rfl L15_2_ok trivial)))
noncomputable def EG22 : Env := { Θ := Th2, Γ := QB0, K := K22, ν := N22, fuel := 5, lp := [] }
noncomputable def G22 : FI := { sig := { ps := [], rs := [] }, impl := fun _ ds k => callN EG22 1 393 B22 R22 ds k, kind := .inl 1 }
theorem cG22 : Contract Try.prog 22 G22 := inl_contract (E := EG22) thOk2 QB0_ok mixed ok22 (loopsOk_of (l := [(0, B22_0), (2, B22_2), (4, B22_4), (6, B22_6), (8, B22_8), (10, B22_10), (12, B22_12), (14, B22_14), (16, B22_16), (18, B22_18), (20, B22_20), (22, B22_22), (24, B22_24), (26, B22_26), (28, B22_28)]) (by kernel_rfl) (allOk_skip rfl (allOk_skip rfl (allOk_skip rfl (allOk_skip rfl (allOk_skip rfl (allOk_skip rfl (allOk_skip rfl (allOk_skip rfl (allOk_skip rfl (allOk_skip rfl (allOk_skip rfl (allOk_skip rfl (allOk_skip rfl (allOk_skip rfl (allOk_skip rfl trivial))))))))))))))))
end Go.Proofs.Ytiaddnmloonhgaa

/- Contexts with Given and the document's streams. -/
namespace Go.Proofs.Ytiaddnmloonhgaa
open Go Go.Eng
set_option maxRecDepth 100000
/-- no function, but a word to the engine: an 'and' is followed where it says yes -/
def noFI : FI := { sig := { ps := [], rs := [] }, impl := fun _ _ _ => none }
theorem ctxOk_prune {Γ : Ctx} (h : CtxOk Try.prog Γ) : CtxOk Try.prog ((999999, noFI) :: Γ) := by
  intro g fi hg
  unfold findF at hg
  split at hg
  · injection hg with hg; subst hg
    refine ⟨fun R ds k r hr => ?_, rfl⟩
    cases (show (none : Option R) = some r from hr)
  · exact h g fi hg
noncomputable def QS0 : Ctx := (15, G15) :: (22, G22) :: (17, { sig := S17, impl := I17 }) :: (19, { sig := S19, impl := I19 }) :: (21, { sig := S21, impl := I21 }) :: G6
theorem QS0_ok : CtxOk Try.prog QS0 := ctxOk_cons ok15 rfl cG15 (ctxOk_cons ok22 rfl cG22 (ctxOk_cons ok17 rfl c17 (ctxOk_cons ok19 rfl c19 (ctxOk_cons ok21 rfl c21 G6_ok))))
noncomputable def QS : Ctx := (999999, noFI) :: QS0
theorem QS_ok : CtxOk Try.prog QS := ctxOk_prune QS0_ok
def start3s (n : Nat) (key : List Int) (ctr : Int) (nonce b : List Int) : AS :=
  { n := n, lo := 0, tmps := [(0, .s (.one (.ints .u8 32 key))), (1, .s (.one (.int .u32 ctr))), (2, .s (.one (.ints .u8 12 nonce))), (3, .s (.one (.own 3)))], items := [(3, .view (.one .u8) 1 b)] }
end Go.Proofs.Ytiaddnmloonhgaa

/- The document's tag: its contract; contexts. -/
namespace Go.Proofs.Ytiaddnmloonhgaa
open Go Go.Eng
set_option maxRecDepth 100000
def I25 : (R : Type) → List DV → (List DV → Option R) → Option R := fun _ ds k => match ds with
  | [.v (.one (.ints .u8 32 key)), .lst (.one .u8) 1 b] => cond (okN 32 key && okY lim b) (k [.v (.one (.ints .u8 16 (macL key b)))]) none
  | _ => none
theorem c25 : Contract Try.prog 25 { sig := S25, impl := I25 } := by
  refine Contract.refine fun R ds k r h => ?_
  unfold I25 at h
  split at h
  · rename_i key b
    refine ⟨_, f25_contract (b.length + 2) Q25_ok, ?_⟩
    cases hc : okN 32 key && okY lim b with
    | true =>
      rw [hc] at h
      rw [Bool.and_eq_true] at hc
      obtain ⟨l, rfl, hl, hb⟩ := okY_of hc.2
      obtain ⟨k1, k2⟩ := okN_of hc.1
      obtain ⟨kl, rfl⟩ := nats_of (xs := key) fun x hx => (k2 x hx).1
      have hkb : ∀ x ∈ kl, x < 256 := fun x hx => by
        have := (k2 (x : Int) (by unfold nats; exact List.mem_map.mpr ⟨x, hx, rfl⟩)).2
        omega
      rw [f25_raw_eq, nats_length, f25_spec hkb (by rw [← nats_length]; exact k1) hl hb]; exact h
    | false => rw [hc] at h; cases h
  · exact (Option.some_ne_none _ h.symm).elim
noncomputable def QM0 : Ctx := (25, { sig := S25, impl := I25 }) :: QS0
theorem QM0_ok : CtxOk Try.prog QM0 := ctxOk_cons ok25 rfl c25 QS0_ok
noncomputable def QM : Ctx := (999999, noFI) :: QM0
theorem QM_ok : CtxOk Try.prog QM := ctxOk_prune QM0_ok
def start4s (n : Nat) (key b : List Int) : AS :=
  { n := n, lo := 0, tmps := [(0, .s (.one (.ints .u8 32 key))), (1, .s (.one (.own 1)))], items := [(1, .view (.one .u8) 1 b)] }
end Go.Proofs.Ytiaddnmloonhgaa

/- The document's small helpers: eight bytes, nonces of numbers; how filled is handed its bytes. -/
namespace Go.Proofs.Ytiaddnmloonhgaa
open Go Go.Eng
set_option maxRecDepth 100000
theorem f98_spec {R : Type} (n : Int) (k : List DV → Option R) : f98_raw 0 n k = k [.lst (.one .u8) 1 (bytesL (IntKind.u64.wrap n) 8)] := by kernel_rfl
def I98 : (R : Type) → List DV → (List DV → Option R) → Option R := fun _ ds k => match ds with
  | [.v (.one (.int .i64 n))] => cond (decide (0 ≤ n) && decide (n ≤ 4611686018427387903)) (k [.lst (.one .u8) 1 (bytesL n 8)]) none
  | _ => none
theorem c98 : Contract Try.prog 98 { sig := S98, impl := I98 } := by
  refine Contract.refine fun R ds k r h => ⟨_, f98_contract 0 ctxOk_nil, ?_⟩
  unfold I98 at h
  split at h
  · rename_i n
    cases hc : decide (0 ≤ n) && decide (n ≤ 4611686018427387903) with
    | true =>
      rw [hc] at h
      rw [Bool.and_eq_true, decide_eq_true_eq, decide_eq_true_eq] at hc
      obtain ⟨m, rfl⟩ : ∃ m : Nat, n = m := ⟨n.toNat, by omega⟩
      rw [f98_raw_eq, f98_spec, w64 (n := m) (by omega)]; exact h
    | false => rw [hc] at h; cases h
  · cases h
theorem f70_spec {R : Type} (n : Int) (k : List DV → Option R) : f70_raw 0 n k = k [.v (.one (.ints .u8 12 ([0, 0, 0, 0] ++ bytesL n 8)))] := by kernel_rfl
def I70 : (R : Type) → List DV → (List DV → Option R) → Option R := fun _ ds k => match ds with
  | [.v (.one (.int .u64 n))] => k [.v (.one (.ints .u8 12 ([0, 0, 0, 0] ++ bytesL n 8)))]
  | _ => none
theorem c70 : Contract Try.prog 70 { sig := S70, impl := I70 } := by
  refine Contract.refine fun R ds k r h => ⟨_, f70_contract 0 ctxOk_nil, ?_⟩
  unfold I70 at h
  split at h
  · rw [f70_raw_eq, f70_spec]; exact h
  · cases h
def So97 : Sig := { ps := [.own (.one .u8) 1], rs := [.fresh (.one .u8) 1] }
end Go.Proofs.Ytiaddnmloonhgaa

/- What rime/rimeref12.filled comes to. MADE BY PROGRAM (wip/tools/mkfn.py, EngGen.lean). -/
namespace Go.Proofs.Ytiaddnmloonhgaa
open Go Go.Eng
set_option maxRecDepth 100000
set_option linter.unusedVariables false

def f97_0_sh : Shp := { n := 11, lo := 1, slots := [(0, .one (.fix (At.own 1000000)))], items := [(1000000, .row (.one IntKind.u8) 1)] }
def f97_0_ex1 : Shp := { n := 11, lo := 1, slots := [(6, .one (.bool)), (0, .one (.fix (At.own 1000000)))], items := [(1000000, .row (.one IntKind.u8) 1)] }
noncomputable def f97_0_st {R : Type} (N : Nat) (self : List Int → Option R) (k1 : Bool → List Int → Option R) (x1 : List Int) : Option R :=
 bif (nI (rowLen 1 x1)).tmod 16 != 0 then
 let v0 : List Int := (zerosOf (1 * 1)).set 0 0;
 bif ((2 * (rowLen 1 x1 + rowLen 1 v0) + 192) * 1).ble big48 && (rowLen 1 x1 + rowLen 1 v0).ble big48 then
 let v1 : List Int := x1 ++ v0;
 self v1
 else Option.none
else k1 ((nI (rowLen 1 x1)).tmod 16 != 0) x1
noncomputable def f97_0_lp {R : Type} (N : Nat) (k1 : Bool → List Int → Option R) : Nat → List Int → Option R
 | 0, _ => none
 | n + 1, x1 => f97_0_st N (f97_0_lp N k1 n) k1 x1
noncomputable def f97_0_F (N : Nat) : (R : Type) → List Leaf → (X → AS → Option R) → Option R := fun _ ls K => match ls with
 | [.l x1] => f97_0_lp N (fun y1 y2 => K (X.normal) (fill f97_0_ex1 [.b y1, .l y2])) N x1
 | _ => none
noncomputable def f97_raw {R : Type} (N : Nat) (x : List Int) (k : List DV → Option R) : Option R :=
 f97_0_lp N (fun w0_1 w0_2 => k [DV.lst (.one IntKind.u8) 1 w0_2]) N x


noncomputable def E97 (N : Nat) : Env := { Θ := Th, Γ := [], K := K97, ν := N97, fuel := 0, lp := [(0, mkL N97_0 f97_0_sh (f97_0_F N))] }

theorem f97_0_st_eq {R : Type} (N : Nat) (K : X → AS → Option R) (n : Nat) (x1 : List Int) : roundsOf (E97 N) N97_0 0 B97_0 K (n + 1) (fill f97_0_sh [.l x1]) = f97_0_st N (fun x1 => roundsOf (E97 N) N97_0 0 B97_0 K n (fill f97_0_sh [.l x1])) (fun y1 y2 => K (X.normal) (fill f97_0_ex1 [.b y1, .l y2])) x1 := by kernel_rfl
theorem f97_0_lp_eq {R : Type} (N : Nat) (K : X → AS → Option R) : ∀ (n : Nat) (x1 : List Int), roundsOf (E97 N) N97_0 0 B97_0 K n (fill f97_0_sh [.l x1]) = f97_0_lp N (fun y1 y2 => K (X.normal) (fill f97_0_ex1 [.b y1, .l y2])) n x1
  | 0, _ => rfl
  | n + 1, x1 => by
    rw [f97_0_st_eq, f97_0_lp, show (fun x1 => roundsOf (E97 N) N97_0 0 B97_0 K n (fill f97_0_sh [.l x1])) = f97_0_lp N (fun y1 y2 => K (X.normal) (fill f97_0_ex1 [.b y1, .l y2])) n from by funext x1; exact f97_0_lp_eq N K n x1]
theorem f97_0_ok (N : Nat) (hlp : LoopsOk Try.prog (E97 N).lp B97_0) (hΓ : CtxOk Try.prog (E97 N).Γ) : LoopOk Try.prog (mkL N97_0 f97_0_sh (f97_0_F N)) 0 B97_0 := by
  refine loopOk_of (E := E97 N) thOk hΓ mixed hlp ?_
  intro R ls K r h
  unfold f97_0_F at h
  split at h
  · exact ⟨N, by rw [f97_0_lp_eq]; exact h⟩
  · cases h

theorem lok97_0 (N : Nat) (hΓ : CtxOk Try.prog []) : LoopOk Try.prog (mkL N97_0 f97_0_sh (f97_0_F N)) 0 B97_0 := f97_0_ok N (loopsOk_of (l := []) (by kernel_rfl) trivial) hΓ
theorem f97_contract (N : Nat) (hΓ : CtxOk Try.prog []) : Contract Try.prog 97 { sig := So97, impl := fun _ ds k => call (E97 N) So97 11 B97 R97 ds k } :=
  call_contract (E := E97 N) thOk hΓ mixed ok97.look ok97.body ok97.n ok97.rv ok97.name rfl (by decide) (loopsOk_of (l := [(0, B97_0)]) (by kernel_rfl) (allOk_cons (L := mkL N97_0 f97_0_sh (f97_0_F N)) rfl (lok97_0 N hΓ) trivial))
theorem f97_raw_eq {R : Type} (N : Nat) (x : List Int) (k : List DV → Option R) : call (E97 N) So97 11 B97 R97 [.lst (.one .u8) 1 x] k = f97_raw N x k := by kernel_rfl
end Go.Proofs.Ytiaddnmloonhgaa

/- Bytes 0 up to a multiple of sixteen. -/
namespace Go.Proofs.Ytiaddnmloonhgaa
open Go Go.Eng
set_option maxRecDepth 100000
theorem fill_loop {R : Type} {N : Nat} (k1 : Bool → List Int → Option R) : ∀ (m : Nat) (x : List Int), padN x.length = m → x.length ≤ 1099511627776 → ∀ fuel, m < fuel → f97_0_lp N k1 fuel x = k1 false (x ++ List.replicate m 0) := by
  intro m
  induction m with
  | zero =>
    intro x hm hl fuel hf
    obtain ⟨f, rfl⟩ : ∃ f, fuel = f + 1 := ⟨fuel - 1, by omega⟩
    show f97_0_st N (f97_0_lp N k1 f) k1 x = _
    unfold f97_0_st
    unfold padN at hm
    have e : ((nI (rowLen 1 x)).tmod 16 != 0) = false := by
      show ((((x.length : Nat) : Int)).tmod 16 != 0) = false
      rw [show (((x.length : Nat) : Int)).tmod 16 = ((x.length % 16 : Nat) : Int) from rfl, bne_eq_false_iff_eq]; omega
    rw [e, cond_false, List.replicate_zero, List.append_nil]
  | succ m ih =>
    intro x hm hl fuel hf
    obtain ⟨f, rfl⟩ : ∃ f, fuel = f + 1 := ⟨fuel - 1, by omega⟩
    show f97_0_st N (f97_0_lp N k1 f) k1 x = _
    unfold f97_0_st
    unfold padN at hm
    have e : ((nI (rowLen 1 x)).tmod 16 != 0) = true := by
      show ((((x.length : Nat) : Int)).tmod 16 != 0) = true
      rw [show (((x.length : Nat) : Int)).tmod 16 = ((x.length % 16 : Nat) : Int) from rfl, bne_iff_ne]; omega
    rw [e, cond_true]
    dsimp only
    rw [one_set, show rowLen 1 x + rowLen 1 [(0 : Int)] = x.length + 1 from rfl, one_app hl, cond_true]
    rw [ih (x ++ [0]) (by unfold padN; rw [List.length_append, List.length_singleton]; omega) (by rw [List.length_append, List.length_singleton]; omega) f (by omega)]
    rw [List.append_assoc]; rfl
def I97 : (R : Type) → List DV → (List DV → Option R) → Option R := fun _ ds k => match ds with
  | [.lst (.one .u8) 1 a] => cond (Nat.ble a.length lim4) (k [.lst (.one .u8) 1 (padL a)]) none
  | _ => none
theorem c97 : Contract Try.prog 97 { sig := So97, impl := I97 } := by
  refine Contract.refine fun R ds k r h => ⟨_, f97_contract 20 ctxOk_nil, ?_⟩
  unfold I97 at h
  split at h
  · rename_i a
    rw [f97_raw_eq]
    cases hb : Nat.ble a.length lim4 with
    | true =>
      rw [hb] at h
      have hb := Nat.le_of_ble_eq_true hb
      have hb' : a.length ≤ 274877906944 := hb
      have hp := padN_lt a.length
      unfold f97_raw
      refine (fill_loop (N := 20) _ (padN a.length) a rfl (by omega) 20 (by omega)).trans ?_
      exact h
    | false => rw [hb] at h; cases h
  · cases h
/-- guards into which no reckoning looks -/
noncomputable def okM : List Int → List Int → Bool := (stkD fun key b => okN 32 key && okY lim b).1
theorem okM_def (key b : List Int) : okM key b = (okN 32 key && okY lim b) := congrFun (congrFun (stkD fun key b => okN 32 key && okY lim b).2 key) b
noncomputable def blockS : List Int → Int → List Int → List Int := (stkD blockL).1
theorem blockS_def (key : List Int) (c : Int) (nonce : List Int) : blockS key c nonce = blockL key c nonce := congrFun (congrFun (congrFun (stkD blockL).2 key) c) nonce
noncomputable def macS : List Int → List Int → List Int := (stkD macL).1
theorem macS_def (key b : List Int) : macS key b = macL key b := congrFun (congrFun (stkD macL).2 key) b
noncomputable def okKN : List Int → List Int → Bool := (stkD fun key nonce => okN 32 key && okN 12 nonce).1
theorem okKN_def (key nonce : List Int) : okKN key nonce = (okN 32 key && okN 12 nonce) := congrFun (congrFun (stkD fun key nonce => okN 32 key && okN 12 nonce).2 key) nonce
noncomputable def J25 : (R : Type) → List DV → (List DV → Option R) → Option R := fun _ ds k => match ds with
  | [.v (.one (.ints .u8 32 key)), .lst (.one .u8) 1 b] => cond (okM key b) (k [.v (.one (.ints .u8 16 (macS key b)))]) none
  | _ => none
theorem d25 : Contract Try.prog 25 { sig := S25, impl := J25 } := by
  refine Contract.refine fun R ds k r h => ⟨_, c25, ?_⟩
  unfold J25 at h
  split at h
  · rw [okM_def, macS_def] at h; exact h
  · cases h
noncomputable def J19 : (R : Type) → List DV → (List DV → Option R) → Option R := fun _ ds k => match ds with
  | [.v (.one (.ints .u8 32 key)), .v (.one (.int .u32 ctr)), .v (.one (.ints .u8 12 nonce))] => cond (okKN key nonce) (k [.v (.one (.ints .u8 64 (blockS key ctr nonce)))]) none
  | _ => none
theorem d19 : Contract Try.prog 19 { sig := S19, impl := J19 } := by
  refine Contract.refine fun R ds k r h => ⟨_, c19, ?_⟩
  unfold J19 at h
  split at h
  · rw [okKN_def, blockS_def] at h; exact h
  · cases h
noncomputable def Q68 : Ctx := (97, { sig := So97, impl := I97 }) :: (98, { sig := S98, impl := I98 }) :: (25, { sig := S25, impl := J25 }) :: (19, { sig := S19, impl := J19 }) :: []
theorem Q68_ok : CtxOk Try.prog Q68 := ctxOk_cons ok97 rfl c97 (ctxOk_cons ok98 rfl c98 (ctxOk_cons ok25 rfl d25 (ctxOk_cons ok19 rfl d19 ctxOk_nil)))
end Go.Proofs.Ytiaddnmloonhgaa

/- What rime/rimeref12.tag comes to. MADE BY PROGRAM (wip/tools/mkfn.py, EngGen.lean). -/
namespace Go.Proofs.Ytiaddnmloonhgaa
open Go Go.Eng
set_option maxRecDepth 100000
set_option linter.unusedVariables false

noncomputable def f68_raw {R : Type} (N : Nat) (key : List Int) (nonce : List Int) (a : List Int) (b : List Int) (k : List DV → Option R) : Option R :=
 bif okKN key nonce then
 bif (rowLen 1 a * 1).ble big48 && (rowLen 1 a).ble big48 then
 bif a.length.ble lim4 then
 bif ((2 * (rowLen 1 (padL a) + rowLen 1 b) + 192) * 1).ble big48 && (rowLen 1 (padL a) + rowLen 1 b).ble big48 then
 let v0 : List Int := padL a ++ b;
 bif v0.length.ble lim4 then
 bif Decidable.decide (0 ≤ nI (rowLen 1 a)) && Decidable.decide (nI (rowLen 1 a) ≤ 4611686018427387903) then
 bif ((2 * (rowLen 1 (padL v0) + rowLen 1 (bytesL (nI (rowLen 1 a)) 8)) + 192) * 1).ble big48 && (rowLen 1 (padL v0) + rowLen 1 (bytesL (nI (rowLen 1 a)) 8)).ble big48 then
 bif Decidable.decide (0 ≤ nI (rowLen 1 b)) && Decidable.decide (nI (rowLen 1 b) ≤ 4611686018427387903) then
 let v1 : List Int := padL v0 ++ bytesL (nI (rowLen 1 a)) 8;
 bif ((2 * (rowLen 1 v1 + rowLen 1 (bytesL (nI (rowLen 1 b)) 8)) + 192) * 1).ble big48 && (rowLen 1 v1 + rowLen 1 (bytesL (nI (rowLen 1 b)) 8)).ble big48 then
 let v2 : List Int := Go.Eng.sub (blockS key 0 nonce) (plusO Off.z 1 Option.none) (mulE (Go.Eng.subN (hiNat (Option.some 32) 64) Option.none) 1);
 let v3 : Nat := Min.min (rowLen 1 v2) (Go.Eng.subN (hiNat Option.none 32) Option.none);
 let v4 : List Int := splice (List.replicate 32 0) (plusO Off.z 1 Option.none) (List.take (mulE v3 1) v2);
 let v5 : List Int := v1 ++ bytesL (nI (rowLen 1 b)) 8;
 bif okM v4 v5 then k [DV.v (SV.one (At.ints IntKind.u8 16 (macS v4 v5)))] else Option.none
 else Option.none
 else Option.none
 else Option.none
 else Option.none
 else Option.none
 else Option.none
 else Option.none
 else Option.none
else Option.none


noncomputable def E68 (N : Nat) : Env := { Θ := Th, Γ := Q68, K := K68, ν := N68, fuel := 0, lp := [] }


theorem f68_contract (N : Nat) (hΓ : CtxOk Try.prog Q68) : Contract Try.prog 68 { sig := S68, impl := fun _ ds k => call (E68 N) S68 39 B68 R68 ds k } :=
  call_contract (E := E68 N) thOk hΓ mixed ok68.look ok68.body ok68.n ok68.rv ok68.name rfl (by decide) (loopsOk_of (l := []) (by kernel_rfl) trivial)
theorem f68_raw_eq {R : Type} (N : Nat) (key : List Int) (nonce : List Int) (a : List Int) (b : List Int) (k : List DV → Option R) : call (E68 N) S68 39 B68 R68 [.v (.one (.ints .u8 32 key)), .v (.one (.ints .u8 12 nonce)), .lst (.one .u8) 1 a, .lst (.one .u8) 1 b] k = f68_raw N key nonce a b k := by kernel_rfl
end Go.Proofs.Ytiaddnmloonhgaa

/- The document's tag of what is open and what is sealed is the program's. -/
namespace Go.Proofs.Ytiaddnmloonhgaa
open Go Go.Eng
set_option maxRecDepth 100000

theorem wrapU8_rng (z : Int) : 0 ≤ IntKind.u8.wrap z ∧ IntKind.u8.wrap z < 256 := by
  unfold IntKind.wrap
  simp only [IntKind.bits, IntKind.signed, Bool.false_and]
  have h1 : 0 ≤ z % 256 := Int.emod_nonneg _ (by decide)
  have h2 : z % 256 < 256 := Int.emod_lt_of_pos _ (by decide)
  exact ⟨h1, h2⟩
theorem block_len (key : List Int) (c : Int) (nonce : List Int) : (blockL key c nonce).length = 64 := by unfold blockL; rw [outL_ref]; simp
theorem block_byt (key : List Int) (c : Int) (nonce : List Int) : Bytes (blockL key c nonce) := by
  unfold blockL
  rw [outL_ref]
  intro x hx
  obtain ⟨i, _, rfl⟩ := List.mem_map.1 hx
  exact wrapU8_rng _
theorem bytesGo_byt (n : Int) : ∀ (m i : Nat), Bytes (bytesGo n m i)
  | 0, _ => by intro x hx; cases hx
  | m + 1, i => by
    intro x hx
    rcases List.mem_cons.1 hx with e | hx
    · subst e; exact wrapU8_rng _
    · exact bytesGo_byt n m (i + 1) x hx
theorem bytesL_byt (n : Int) (m : Nat) : Bytes (bytesL n m) := bytesGo_byt n m 0
theorem bytes_app {a b : List Int} (ha : Bytes a) (hb : Bytes b) : Bytes (a ++ b) := by
  intro x hx
  rcases List.mem_append.1 hx with h | h
  · exact ha x h
  · exact hb x h
theorem padL_bytes {a : List Int} (ha : Bytes a) : Bytes (padL a) := by
  refine bytes_app ha fun x hx => ?_
  have := List.eq_of_mem_replicate hx
  omega
theorem padL_twice (a b : List Int) : padL (padL a ++ b) = padL a ++ padL b := by
  have h : padN (padL a ++ b).length = padN b.length := by
    rw [List.length_append, padL_length]
    unfold padN
    omega
  unfold padL at h ⊢
  rw [h, List.append_assoc]
theorem whole_bytes {a b : List Int} (ha : Bytes a) (hb : Bytes b) : Bytes (wholeText a b) := bytes_app (bytes_app (bytes_app (padL_bytes ha) (padL_bytes hb)) (bytesL_byt _ _)) (bytesL_byt _ _)
theorem bytes_take {a : List Int} (ha : Bytes a) (n : Nat) : Bytes (a.take n) := fun x hx => ha x (List.mem_of_mem_take hx)

def limT : Nat := 1073741824
noncomputable def okT : List Int → List Int → List Int → List Int → Bool := (stkD fun key nonce a b => (okN 32 key && okN 12 nonce) && (okY limT a && okY limT b)).1
theorem okT_def (key nonce a b : List Int) : okT key nonce a b = ((okN 32 key && okN 12 nonce) && (okY limT a && okY limT b)) := congrFun (congrFun (congrFun (congrFun (stkD fun key nonce a b => (okN 32 key && okN 12 nonce) && (okY limT a && okY limT b)).2 key) nonce) a) b
theorem okY_bytes {n : Nat} {x : List Int} (h : okY n x = true) : x.length ≤ n ∧ Bytes x := by
  obtain ⟨l, rfl, hl, hb⟩ := okY_of h
  refine ⟨by rw [nats_length]; exact hl, fun b hx => ?_⟩
  unfold nats at hx
  obtain ⟨m, hm, rfl⟩ := List.mem_map.mp hx
  have := hb m hm
  exact ⟨Int.natCast_nonneg m, by show (m : Int) < 256; omega⟩

theorem f68_spec {R : Type} {key nonce a b : List Int} (hk : okN 32 key = true) (hn : okN 12 nonce = true) (ha : okY limT a = true) (hb : okY limT b = true) (k : List DV → Option R) : f68_raw 0 key nonce a b k = k [.v (.one (.ints .u8 16 (tagL key nonce a b)))] := by
  obtain ⟨la, ba⟩ := okY_bytes ha
  obtain ⟨lb, bb⟩ := okY_bytes hb
  have la : a.length ≤ 1073741824 := la
  have lb : b.length ≤ 1073741824 := lb
  have pa := padL_length a
  have pb := padL_length b
  have qa := padN_lt a.length
  have qb := padN_lt b.length
  have pw : (wholeText a b).length ≤ 2147483712 := by
    unfold wholeText
    simp only [List.length_append, bytesL_length]; omega
  have e : ∀ l : List Int, rowLen 1 l = l.length := fun _ => rfl
  have eI : ∀ n : Nat, nI n = (n : Int) := fun _ => rfl
  have big : ∀ n : Nat, n ≤ 4294967296 → (((2 * n + 192) * 1).ble big48 && n.ble big48) = true := fun n h => by
    rw [show ((2 * n + 192) * 1).ble big48 = true from Nat.ble_eq_true_of_le (by unfold big48; omega), show n.ble big48 = true from Nat.ble_eq_true_of_le (by unfold big48; omega)]; rfl
  have lim4b : ∀ n : Nat, n ≤ 4294967296 → n.ble lim4 = true := fun n h => Nat.ble_eq_true_of_le (by unfold lim4; omega)
  have hv2 : Go.Eng.sub (blockL key 0 nonce) (plusO Off.z 1 Option.none) (mulE (Go.Eng.subN (hiNat (Option.some 32) 64) Option.none) 1) = (blockL key 0 nonce).take 32 := rfl
  have l32 : ((blockL key 0 nonce).take 32).length = 32 := by rw [List.length_take, block_len]; decide
  have hv4 : splice (List.replicate 32 0) (plusO Off.z 1 Option.none) (List.take (mulE (min (rowLen 1 ((blockL key 0 nonce).take 32)) (Go.Eng.subN (hiNat Option.none 32) Option.none)) 1) ((blockL key 0 nonce).take 32)) = (blockL key 0 nonce).take 32 := by
    rw [e, l32]
    have e1 : List.take (mulE (min 32 (Go.Eng.subN (hiNat Option.none 32) Option.none)) 1) ((blockL key 0 nonce).take 32) = (blockL key 0 nonce).take 32 := by
      show List.take 32 _ = _
      exact List.take_of_length_le (by omega)
    rw [e1]
    show (blockL key 0 nonce).take 32 ++ (List.replicate 32 0).drop ((blockL key 0 nonce).take 32).length = _
    rw [l32]; exact List.append_nil _
  have hw : padL a ++ padL b ++ bytesL ((a.length : Nat) : Int) 8 ++ bytesL ((b.length : Nat) : Int) 8 = wholeText a b := rfl
  unfold f68_raw
  dsimp only
  rw [okKN_def, hk, hn, Bool.and_self, cond_true, e, e, e, padL_twice, e, e, e, e]
  simp only [blockS_def, macS_def, hv2, hv4, eI, hw]
  rw [show ((a.length * 1).ble big48 && a.length.ble big48) = true by
    rw [show (a.length * 1).ble big48 = true from Nat.ble_eq_true_of_le (by unfold big48; omega), show a.length.ble big48 = true from Nat.ble_eq_true_of_le (by unfold big48; omega)]; rfl, cond_true]
  rw [lim4b _ (by omega), cond_true, big _ (by omega), cond_true, lim4b _ (by rw [List.length_append]; omega), cond_true]
  rw [decide_eq_true (show (0 : Int) ≤ ((a.length : Nat) : Int) by omega), decide_eq_true (show ((a.length : Nat) : Int) ≤ 4611686018427387903 by omega), Bool.and_self, cond_true]
  rw [big _ (by simp only [List.length_append, bytesL_length]; omega), cond_true]
  rw [decide_eq_true (show (0 : Int) ≤ ((b.length : Nat) : Int) by omega), decide_eq_true (show ((b.length : Nat) : Int) ≤ 4611686018427387903 by omega), Bool.and_self, cond_true]
  rw [big _ (by simp only [List.length_append, bytesL_length]; omega), cond_true]
  rw [okM_def, okN_mk l32 (bytes_take (block_byt _ _ _) 32), okY_mk (n := lim) (by unfold lim; omega) (whole_bytes ba bb), Bool.and_self, cond_true]
  rfl
noncomputable def I68 : (R : Type) → List DV → (List DV → Option R) → Option R := fun _ ds k => match ds with
  | [.v (.one (.ints .u8 32 key)), .v (.one (.ints .u8 12 nonce)), .lst (.one .u8) 1 a, .lst (.one .u8) 1 b] => cond (okT key nonce a b) (k [.v (.one (.ints .u8 16 (tagL key nonce a b)))]) none
  | _ => none
theorem c68 : Contract Try.prog 68 { sig := S68, impl := I68 } := by
  refine Contract.refine fun R ds k r h => ⟨_, f68_contract 0 Q68_ok, ?_⟩
  unfold I68 at h
  split at h
  · rename_i key nonce a b
    rw [okT_def] at h
    cases hc : ((okN 32 key && okN 12 nonce) && (okY limT a && okY limT b)) with
    | true =>
      rw [hc] at h
      simp only [Bool.and_eq_true] at hc
      rw [f68_raw_eq, f68_spec hc.1.1 hc.1.2 hc.2.1 hc.2.2]; exact h
    | false => rw [hc] at h; cases h
  · cases h
end Go.Proofs.Ytiaddnmloonhgaa

/- The document's streams and tags, as something into which no reckoning looks. -/
namespace Go.Proofs.Ytiaddnmloonhgaa
open Go Go.Eng
set_option maxRecDepth 100000
noncomputable def streamS : List Int → Nat → List Int → List Int → List Int := (stkD streamL).1
theorem streamS_def (key : List Int) (c : Nat) (nonce b : List Int) : streamS key c nonce b = streamL key c nonce b := congrFun (congrFun (congrFun (congrFun (stkD streamL).2 key) c) nonce) b
noncomputable def tagS : List Int → List Int → List Int → List Int → List Int := (stkD tagL).1
theorem tagS_def (key nonce a b : List Int) : tagS key nonce a b = tagL key nonce a b := congrFun (congrFun (congrFun (congrFun (stkD tagL).2 key) nonce) a) b
/-- a stream that begins with block 1 -/
noncomputable def okSt : List Int → List Int → List Int → Bool := (stkD fun (key nonce b : List Int) => (okN 32 key && okN 12 nonce) && Nat.ble b.length limT).1
theorem okSt_def (key nonce b : List Int) : okSt key nonce b = ((okN 32 key && okN 12 nonce) && Nat.ble b.length limT) := congrFun (congrFun (congrFun (stkD fun (key nonce b : List Int) => (okN 32 key && okN 12 nonce) && Nat.ble b.length limT).2 key) nonce) b
noncomputable def J17 : (R : Type) → List DV → (List DV → Option R) → Option R := fun _ ds k => match ds with
  | [.v (.one (.ints .u8 32 key)), .v (.one (.int .u32 1)), .v (.one (.ints .u8 12 nonce)), .lst (.one .u8) 1 b] =>
    cond (okSt key nonce b) (k [.lst (.one .u8) 1 (streamS key 1 nonce b), .v (.one (.int .i64 0))]) none
  | _ => none
theorem d17 : Contract Try.prog 17 { sig := S17, impl := J17 } := by
  refine Contract.refine fun R ds k r h => ⟨_, c17, ?_⟩
  unfold J17 at h
  split at h
  · rename_i key nonce b
    rw [okSt_def] at h
    cases hc : ((okN 32 key && okN 12 nonce) && Nat.ble b.length limT) with
    | true =>
      rw [hc] at h
      rw [Bool.and_eq_true] at hc
      have hl : b.length ≤ 1073741824 := Nat.le_of_ble_eq_true hc.2
      rw [streamS_def] at h
      show (cond ((okN 32 key && okN 12 nonce) && (decide ((0 : Int) ≤ 1) && (decide ((1 : Int) < 4294967296) && Nat.ble b.length lim))) (cond (tooFar (1 : Int).toNat b.length) _ _) none) = _
      rw [hc.1, show Nat.ble b.length lim = true from Nat.ble_eq_true_of_le (by unfold lim; omega)]
      have ht : tooFar (1 : Int).toNat b.length = false := by
        unfold tooFar
        exact decide_eq_false (by show ¬ (4294967296 < 1 + (b.length + 63) / 64); omega)
      rw [ht]
      exact h
    | false => rw [hc] at h; cases h
  · cases h
noncomputable def J68 : (R : Type) → List DV → (List DV → Option R) → Option R := fun _ ds k => match ds with
  | [.v (.one (.ints .u8 32 key)), .v (.one (.ints .u8 12 nonce)), .lst (.one .u8) 1 a, .lst (.one .u8) 1 b] => cond (okT key nonce a b) (k [.v (.one (.ints .u8 16 (tagS key nonce a b)))]) none
  | _ => none
theorem d68 : Contract Try.prog 68 { sig := S68, impl := J68 } := by
  refine Contract.refine fun R ds k r h => ⟨_, c68, ?_⟩
  unfold J68 at h
  split at h
  · rw [tagS_def] at h; exact h
  · cases h
noncomputable def Q29 : Ctx := (17, { sig := S17, impl := J17 }) :: (68, { sig := S68, impl := J68 }) :: []
theorem Q29_ok : CtxOk Try.prog Q29 := ctxOk_cons ok17 rfl d17 (ctxOk_cons ok68 rfl d68 ctxOk_nil)
end Go.Proofs.Ytiaddnmloonhgaa

/- What rime/rimeref12.Open comes to. MADE BY PROGRAM (wip/tools/mkfn.py, EngGen.lean). -/
namespace Go.Proofs.Ytiaddnmloonhgaa
open Go Go.Eng
set_option maxRecDepth 100000
set_option linter.unusedVariables false

def f27_0_sh : Shp := { n := 51, lo := 4, slots := [(3, .one (.fix (At.own 3))), (4, .one (.fix (At.ptr 4 0 Off.z 32))), (5, .one (.fix (At.ptr 5 0 Off.z 12))), (10, .one (.int IntKind.i64)), (11, .one (.fix (At.ptr 11 0 Off.z 16))), (12, .one (.int IntKind.i64))], items := [(3, .view (.one IntKind.u8) 1), (4, .obj [.ints IntKind.u8 32]), (5, .obj [.ints IntKind.u8 12]), (11, .obj [.ints IntKind.u8 16])] }
def f27_0_ex1 : Shp := { n := 51, lo := 4, slots := [(9, .one (.int IntKind.i64)), (8, .one (.fix (At.nils))), (40, .one (.bool)), (28, .one (.bool)), (3, .one (.fix (At.own 3))), (4, .one (.fix (At.ptr 4 0 Off.z 32))), (5, .one (.fix (At.ptr 5 0 Off.z 12))), (10, .one (.int IntKind.i64)), (11, .one (.fix (At.ptr 11 0 Off.z 16))), (12, .one (.int IntKind.i64))], items := [(3, .view (.one IntKind.u8) 1), (4, .obj [.ints IntKind.u8 32]), (5, .obj [.ints IntKind.u8 12]), (11, .obj [.ints IntKind.u8 16])] }
def f27_0_ex2 : Shp := { n := 51, lo := 4, slots := [(28, .one (.bool)), (3, .one (.fix (At.own 3))), (4, .one (.fix (At.ptr 4 0 Off.z 32))), (5, .one (.fix (At.ptr 5 0 Off.z 12))), (10, .one (.int IntKind.i64)), (11, .one (.fix (At.ptr 11 0 Off.z 16))), (12, .one (.int IntKind.i64))], items := [(3, .view (.one IntKind.u8) 1), (4, .obj [.ints IntKind.u8 32]), (5, .obj [.ints IntKind.u8 12]), (11, .obj [.ints IntKind.u8 16])] }
noncomputable def f27_0_st {R : Type} (N : Nat) (self : Int → Int → List Int → List Int → List Int → List Int → Option R) (k1 : Int → Bool → Bool → Int → Int → List Int → List Int → List Int → List Int → Option R) (k2 : Bool → Int → Int → List Int → List Int → List Int → List Int → Option R) (x1 : Int) (x2 : Int) (x3 : List Int) (x4 : List Int) (x5 : List Int) (x6 : List Int) : Option R :=
 bif Decidable.decide (x2 < 16) then
 let v0 : Int := IntKind.i64.wrap (x1 + x2);
 bif Decidable.decide (0 ≤ v0) && Decidable.decide (v0 < nI (rowLen 1 x3)) then
 bif Decidable.decide (0 ≤ x2) && Decidable.decide (x2 < 16) then
 bif x3.getD (mulE v0.toNat 1) 0 != x6.getD (mulE x2.toNat 1) 0 then k1 121 (x3.getD (mulE v0.toNat 1) 0 != x6.getD (mulE x2.toNat 1) 0) (Decidable.decide (x2 < 16)) x1 x2 x3 x4 x5 x6
 else
 let v1 : Int := IntKind.i64.wrap (x2 + 1);
 self x1 v1 x3 x4 x5 x6
 else Option.none
 else Option.none
else k2 (Decidable.decide (x2 < 16)) x1 x2 x3 x4 x5 x6
noncomputable def f27_0_lp {R : Type} (N : Nat) (k1 : Int → Bool → Bool → Int → Int → List Int → List Int → List Int → List Int → Option R) (k2 : Bool → Int → Int → List Int → List Int → List Int → List Int → Option R) : Nat → Int → Int → List Int → List Int → List Int → List Int → Option R
 | 0, _, _, _, _, _, _ => none
 | n + 1, x1, x2, x3, x4, x5, x6 => f27_0_st N (f27_0_lp N k1 k2 n) k1 k2 x1 x2 x3 x4 x5 x6
noncomputable def f27_0_F (N : Nat) : (R : Type) → List Leaf → (X → AS → Option R) → Option R := fun _ ls K => match ls with
 | [.i x1, .i x2, .l x3, .l x4, .l x5, .l x6] => f27_0_lp N (fun y1 y2 y3 y4 y5 y6 y7 y8 y9 => K (X.ret) (fill f27_0_ex1 [.i y1, .b y2, .b y3, .i y4, .i y5, .l y6, .l y7, .l y8, .l y9])) (fun y1 y2 y3 y4 y5 y6 y7 => K (X.normal) (fill f27_0_ex2 [.b y1, .i y2, .i y3, .l y4, .l y5, .l y6, .l y7])) N x1 x2 x3 x4 x5 x6
 | _ => none
noncomputable def f27_raw {R : Type} (N : Nat) (key : List Int) (nonce : List Int) (a : List Int) (b : List Int) (k : List DV → Option R) : Option R :=
 let v0 : Int := IntKind.i64.wrap (nI (rowLen 1 b) - 16);
bif Decidable.decide (v0 < 0) then k [DV.lst (.one IntKind.u8) 1 [], DV.v (SV.one (At.int IntKind.i64 3))]
else
 bif hiOk (Option.some v0) (rowLen 1 b) then
 let v1 : List Int := Go.Eng.sub b (plusO Off.z 1 Option.none) (mulE (Go.Eng.subN (hiNat (Option.some v0) (rowLen 1 b)) Option.none) 1);
 bif okT key nonce a v1 then
 f27_0_lp N (fun w2_1 w2_2 w2_3 w2_4 w2_5 w2_6 w2_7 w2_8 w2_9 => k [DV.lst (.one IntKind.u8) 1 [], DV.v (SV.one (At.int IntKind.i64 w2_1))])
 (fun w3_1 w3_2 w3_3 w3_4 w3_5 w3_6 w3_7 =>
 bif hiOk (Option.some w3_2) (rowLen 1 w3_4) then
 let v4 : List Int := Go.Eng.sub w3_4 (plusO Off.z 1 Option.none) (mulE (Go.Eng.subN (hiNat (Option.some w3_2) (rowLen 1 w3_4)) Option.none) 1);
 bif okSt w3_5 w3_6 v4 then k [DV.lst (.one IntKind.u8) 1 (streamS w3_5 1 w3_6 v4), DV.v (SV.one (At.int IntKind.i64 0))] else Option.none
 else Option.none)
 N v0 0 b key nonce (tagS key nonce a v1)
 else Option.none
 else Option.none


noncomputable def E27 (N : Nat) : Env := { Θ := Th, Γ := Q29, K := K27, ν := N27, fuel := 0, lp := [(0, mkL N27_0 f27_0_sh (f27_0_F N))] }

theorem f27_0_st_eq {R : Type} (N : Nat) (K : X → AS → Option R) (n : Nat) (x1 : Int) (x2 : Int) (x3 : List Int) (x4 : List Int) (x5 : List Int) (x6 : List Int) : roundsOf (E27 N) N27_0 0 B27_0 K (n + 1) (fill f27_0_sh [.i x1, .i x2, .l x3, .l x4, .l x5, .l x6]) = f27_0_st N (fun x1 x2 x3 x4 x5 x6 => roundsOf (E27 N) N27_0 0 B27_0 K n (fill f27_0_sh [.i x1, .i x2, .l x3, .l x4, .l x5, .l x6])) (fun y1 y2 y3 y4 y5 y6 y7 y8 y9 => K (X.ret) (fill f27_0_ex1 [.i y1, .b y2, .b y3, .i y4, .i y5, .l y6, .l y7, .l y8, .l y9])) (fun y1 y2 y3 y4 y5 y6 y7 => K (X.normal) (fill f27_0_ex2 [.b y1, .i y2, .i y3, .l y4, .l y5, .l y6, .l y7])) x1 x2 x3 x4 x5 x6 := by kernel_rfl
theorem f27_0_lp_eq {R : Type} (N : Nat) (K : X → AS → Option R) : ∀ (n : Nat) (x1 : Int) (x2 : Int) (x3 : List Int) (x4 : List Int) (x5 : List Int) (x6 : List Int), roundsOf (E27 N) N27_0 0 B27_0 K n (fill f27_0_sh [.i x1, .i x2, .l x3, .l x4, .l x5, .l x6]) = f27_0_lp N (fun y1 y2 y3 y4 y5 y6 y7 y8 y9 => K (X.ret) (fill f27_0_ex1 [.i y1, .b y2, .b y3, .i y4, .i y5, .l y6, .l y7, .l y8, .l y9])) (fun y1 y2 y3 y4 y5 y6 y7 => K (X.normal) (fill f27_0_ex2 [.b y1, .i y2, .i y3, .l y4, .l y5, .l y6, .l y7])) n x1 x2 x3 x4 x5 x6
  | 0, _, _, _, _, _, _ => rfl
  | n + 1, x1, x2, x3, x4, x5, x6 => by
    rw [f27_0_st_eq, f27_0_lp, show (fun x1 x2 x3 x4 x5 x6 => roundsOf (E27 N) N27_0 0 B27_0 K n (fill f27_0_sh [.i x1, .i x2, .l x3, .l x4, .l x5, .l x6])) = f27_0_lp N (fun y1 y2 y3 y4 y5 y6 y7 y8 y9 => K (X.ret) (fill f27_0_ex1 [.i y1, .b y2, .b y3, .i y4, .i y5, .l y6, .l y7, .l y8, .l y9])) (fun y1 y2 y3 y4 y5 y6 y7 => K (X.normal) (fill f27_0_ex2 [.b y1, .i y2, .i y3, .l y4, .l y5, .l y6, .l y7])) n from by funext x1 x2 x3 x4 x5 x6; exact f27_0_lp_eq N K n x1 x2 x3 x4 x5 x6]
theorem f27_0_ok (N : Nat) (hlp : LoopsOk Try.prog (E27 N).lp B27_0) (hΓ : CtxOk Try.prog (E27 N).Γ) : LoopOk Try.prog (mkL N27_0 f27_0_sh (f27_0_F N)) 0 B27_0 := by
  refine loopOk_of (E := E27 N) thOk hΓ mixed hlp ?_
  intro R ls K r h
  unfold f27_0_F at h
  split at h
  · exact ⟨N, by rw [f27_0_lp_eq]; exact h⟩
  · cases h

theorem lok27_0 (N : Nat) (hΓ : CtxOk Try.prog Q29) : LoopOk Try.prog (mkL N27_0 f27_0_sh (f27_0_F N)) 0 B27_0 := f27_0_ok N (loopsOk_of (l := []) (by kernel_rfl) trivial) hΓ
theorem f27_contract (N : Nat) (hΓ : CtxOk Try.prog Q29) : Contract Try.prog 27 { sig := S27, impl := fun _ ds k => call (E27 N) S27 51 B27 R27 ds k } :=
  call_contract (E := E27 N) thOk hΓ mixed ok27.look ok27.body ok27.n ok27.rv ok27.name rfl (by decide) (loopsOk_of (l := [(0, B27_0)]) (by kernel_rfl) (allOk_cons (L := mkL N27_0 f27_0_sh (f27_0_F N)) rfl (lok27_0 N hΓ) trivial))
theorem f27_raw_eq {R : Type} (N : Nat) (key : List Int) (nonce : List Int) (a : List Int) (b : List Int) (k : List DV → Option R) : call (E27 N) S27 51 B27 R27 [.v (.one (.ints .u8 32 key)), .v (.one (.ints .u8 12 nonce)), .lst (.one .u8) 1 a, .lst (.one .u8) 1 b] k = f27_raw N key nonce a b k := by kernel_rfl
end Go.Proofs.Ytiaddnmloonhgaa

/- What rime/rimeref12.Seal comes to. MADE BY PROGRAM (wip/tools/mkfn.py, EngGen.lean). -/
namespace Go.Proofs.Ytiaddnmloonhgaa
open Go Go.Eng
set_option maxRecDepth 100000
set_option linter.unusedVariables false

noncomputable def f29_raw {R : Type} (N : Nat) (key : List Int) (nonce : List Int) (a : List Int) (b : List Int) (k : List DV → Option R) : Option R :=
 bif okSt key nonce b then
 bif okT key nonce a (streamS key 1 nonce b) then
 let v0 : List Int := Go.Eng.sub (tagS key nonce a (streamS key 1 nonce b)) (plusO Off.z 1 Option.none) (mulE (Go.Eng.subN (hiNat Option.none 16) Option.none) 1);
 bif ((2 * (rowLen 1 (streamS key 1 nonce b) + rowLen 1 v0) + 192) * 1).ble big48 && (rowLen 1 (streamS key 1 nonce b) + rowLen 1 v0).ble big48 then
 let v1 : List Int := streamS key 1 nonce b ++ v0;
 k [DV.lst (.one IntKind.u8) 1 v1]
 else Option.none
 else Option.none
else Option.none


noncomputable def E29 (N : Nat) : Env := { Θ := Th, Γ := Q29, K := K29, ν := N29, fuel := 0, lp := [] }


theorem f29_contract (N : Nat) (hΓ : CtxOk Try.prog Q29) : Contract Try.prog 29 { sig := S29, impl := fun _ ds k => call (E29 N) S29 27 B29 R29 ds k } :=
  call_contract (E := E29 N) thOk hΓ mixed ok29.look ok29.body ok29.n ok29.rv ok29.name rfl (by decide) (loopsOk_of (l := []) (by kernel_rfl) trivial)
theorem f29_raw_eq {R : Type} (N : Nat) (key : List Int) (nonce : List Int) (a : List Int) (b : List Int) (k : List DV → Option R) : call (E29 N) S29 27 B29 R29 [.v (.one (.ints .u8 32 key)), .v (.one (.ints .u8 12 nonce)), .lst (.one .u8) 1 a, .lst (.one .u8) 1 b] k = f29_raw N key nonce a b k := by kernel_rfl
end Go.Proofs.Ytiaddnmloonhgaa

/- The document's sealing is the program's. -/
namespace Go.Proofs.Ytiaddnmloonhgaa
open Go Go.Eng
set_option maxRecDepth 100000
theorem stream_len (key : List Int) (c : Nat) (nonce b : List Int) : (streamL key c nonce b).length = b.length := maskL_len _ _
theorem stream_byt (key : List Int) (c : Nat) (nonce b : List Int) : Bytes (streamL key c nonce b) := by
  intro x hx
  unfold streamL maskL at hx
  obtain ⟨i, h, rfl⟩ := List.mem_mapIdx.1 hx
  exact wrapU8_rng _
theorem f29_spec {R : Type} {key nonce a b : List Int} (hk : okN 32 key = true) (hn : okN 12 nonce = true) (ha : okY limT a = true) (hb : okY limT b = true) (k : List DV → Option R) : f29_raw 0 key nonce a b k = k [.lst (.one .u8) 1 (sealL key nonce a b)] := by
  obtain ⟨lb, bb⟩ := okY_bytes hb
  have lb' : b.length ≤ 1073741824 := lb
  have ls := stream_len key 1 nonce b
  unfold f29_raw
  dsimp only
  simp only [streamS_def, tagS_def]
  rw [okSt_def, hk, hn, show Nat.ble b.length limT = true from Nat.ble_eq_true_of_le lb, Bool.and_self, Bool.and_self, cond_true]
  rw [okT_def, hk, hn, ha, okY_mk (n := limT) (by rw [ls]; exact lb) (stream_byt key 1 nonce b), Bool.and_self, Bool.and_self, cond_true]
  have hs : Go.Eng.sub (tagL key nonce a (streamL key 1 nonce b)) (plusO Off.z 1 Option.none) (mulE (Go.Eng.subN (hiNat Option.none 16) Option.none) 1) = (tagL key nonce a (streamL key 1 nonce b)).take 16 := rfl
  rw [hs]
  have hl : rowLen 1 (streamL key 1 nonce b) + rowLen 1 ((tagL key nonce a (streamL key 1 nonce b)).take 16) ≤ 1073741840 := by
    show (streamL key 1 nonce b).length + ((tagL key nonce a (streamL key 1 nonce b)).take 16).length ≤ _
    rw [ls, List.length_take]; omega
  generalize rowLen 1 (streamL key 1 nonce b) + rowLen 1 ((tagL key nonce a (streamL key 1 nonce b)).take 16) = n at hl
  rw [show ((2 * n + 192) * 1).ble big48 = true from Nat.ble_eq_true_of_le (by unfold big48; omega), show n.ble big48 = true from Nat.ble_eq_true_of_le (by unfold big48; omega)]
  rfl
noncomputable def I29 : (R : Type) → List DV → (List DV → Option R) → Option R := fun _ ds k => match ds with
  | [.v (.one (.ints .u8 32 key)), .v (.one (.ints .u8 12 nonce)), .lst (.one .u8) 1 a, .lst (.one .u8) 1 b] => cond (okT key nonce a b) (k [.lst (.one .u8) 1 (sealL key nonce a b)]) none
  | _ => none
theorem c29 : Contract Try.prog 29 { sig := S29, impl := I29 } := by
  refine Contract.refine fun R ds k r h => ⟨_, f29_contract 0 Q29_ok, ?_⟩
  unfold I29 at h
  split at h
  · rename_i key nonce a b
    rw [okT_def] at h
    cases hc : ((okN 32 key && okN 12 nonce) && (okY limT a && okY limT b)) with
    | true =>
      rw [hc] at h
      simp only [Bool.and_eq_true] at hc
      rw [f29_raw_eq, f29_spec hc.1.1 hc.1.2 hc.2.1 hc.2.2]; exact h
    | false => rw [hc] at h; cases h
  · cases h
end Go.Proofs.Ytiaddnmloonhgaa

/- The document's opening is the program's. -/
namespace Go.Proofs.Ytiaddnmloonhgaa
open Go Go.Eng
set_option maxRecDepth 100000
theorem tag_len {key nonce a b : List Int} (ha : Bytes a) (hb : Bytes b) : (tagL key nonce a b).length = 16 := by
  unfold tagL
  obtain ⟨k, hk⟩ := nats_of (xs := (blockL key 0 nonce).take 32) fun x hx => (bytes_take (block_byt key 0 nonce) 32 x hx).1
  obtain ⟨l, hl⟩ := nats_of (xs := wholeText a b) fun x hx => (whole_bytes ha hb x hx).1
  have nat_lt : ∀ {m : List Nat}, Bytes (nats m) → ∀ x ∈ m, x < 256 := fun h x hx => by
    have := (h (x : Int) (by unfold nats; exact List.mem_map.mpr ⟨x, hx, rfl⟩)).2
    omega
  have l32 : k.length = 32 := by rw [← nats_length, ← hk, List.length_take, block_len]; decide
  rw [hk, hl, mac_nat (nat_lt (by rw [← hk]; exact bytes_take (block_byt key 0 nonce) 32)) l32 (nat_lt (by rw [← hl]; exact whole_bytes ha hb)), nats_length]
  exact digs_length _ _ _

theorem open_loop {R : Type} {N : Nat} (g : Int → Option R) (k2 : Bool → Int → Int → List Int → List Int → List Int → List Int → Option R) {b t key nonce : List Int} {n : Nat} (hn : n + 16 = b.length) (hl : b.length ≤ 1099511627776) (ht : t.length = 16) :
    ∀ (m i : Nat), i + m = 16 → ∀ fuel, m < fuel → f27_0_lp N (fun w _ _ _ _ _ _ _ _ => g w) k2 fuel (n : Int) (i : Int) b key nonce t = bif decide (b.drop (n + i) = t.drop i) then k2 false (n : Int) 16 b key nonce t else g 121 := by
  intro m
  induction m with
  | zero =>
    intro i h fuel hf
    obtain ⟨f, rfl⟩ : ∃ f, fuel = f + 1 := ⟨fuel - 1, by omega⟩
    have : i = 16 := by omega
    subst this
    rw [List.drop_of_length_le (by omega), List.drop_of_length_le (by omega), decide_eq_true rfl, cond_true]
    rfl
  | succ m ih =>
    intro i h fuel hf
    obtain ⟨f, rfl⟩ : ∃ f, fuel = f + 1 := ⟨fuel - 1, by omega⟩
    show f27_0_st N (f27_0_lp N _ k2 f) _ k2 _ _ _ _ _ _ = _
    unfold f27_0_st
    have e0 : IntKind.i64.wrap ((n : Int) + (i : Int)) = ((n + i : Nat) : Int) := by
      rw [show (n : Int) + (i : Int) = ((n + i : Nat) : Int) by omega]; exact wi64 (by omega)
    have e1 : IntKind.i64.wrap ((i : Int) + 1) = ((i + 1 : Nat) : Int) := by
      rw [show (i : Int) + 1 = ((i + 1 : Nat) : Int) by omega]; exact wi64 (by omega)
    dsimp only
    rw [e0, e1, decide_eq_true (show (i : Int) < 16 by omega), decide_eq_true (show (0 : Int) ≤ ((n + i : Nat) : Int) by omega), decide_eq_true (show ((n + i : Nat) : Int) < nI (rowLen 1 b) by show ((n + i : Nat) : Int) < (b.length : Int); omega), decide_eq_true (show (0 : Int) ≤ (i : Int) by omega)]
    simp only [Bool.and_self, cond_true, mulE_one, Int.toNat_natCast]
    rw [ih (i + 1) (by omega) f (by omega), by_drop (show n + i < b.length by omega), by_drop (show i < t.length by omega)]
    by_cases hx : b.getD (n + i) 0 = t.getD i 0
    · rw [hx, show (t.getD i 0 != t.getD i 0) = false by simp, cond_false, show n + (i + 1) = n + i + 1 by omega]
      congr 1
      exact decide_eq_decide.2 ⟨fun e => by rw [e], fun e => (List.cons.inj e).2⟩
    · rw [show (b.getD (n + i) 0 != t.getD i 0) = true by simpa using hx, cond_true]
      rw [decide_eq_false (fun e => hx (List.cons.inj e).1), cond_false]

theorem f27_spec {R : Type} {key nonce a b : List Int} (hk : okN 32 key = true) (hn : okN 12 nonce = true) (ha : okY limT a = true) (hb : okY limT b = true) (k : List DV → Option R) : f27_raw 17 key nonce a b k = k [.lst (.one .u8) 1 (openL key nonce a b).1, .v (.one (.int .i64 (openL key nonce a b).2))] := by
  obtain ⟨la, ba⟩ := okY_bytes ha
  obtain ⟨lb, bb⟩ := okY_bytes hb
  have lb' : b.length ≤ 1073741824 := lb
  unfold f27_raw
  by_cases h16 : b.length < 16
  · have e0 : IntKind.i64.wrap (nI (rowLen 1 b) - 16) = (b.length : Int) - 16 := by
      have hc : b.length = 0 ∨ b.length = 1 ∨ b.length = 2 ∨ b.length = 3 ∨ b.length = 4 ∨ b.length = 5 ∨ b.length = 6 ∨ b.length = 7 ∨ b.length = 8 ∨ b.length = 9 ∨ b.length = 10 ∨ b.length = 11 ∨ b.length = 12 ∨ b.length = 13 ∨ b.length = 14 ∨ b.length = 15 := by omega
      show IntKind.i64.wrap ((b.length : Int) - 16) = _
      rcases hc with h | h | h | h | h | h | h | h | h | h | h | h | h | h | h | h <;> rw [h] <;> decide
    dsimp only
    rw [e0, decide_eq_true (show (b.length : Int) - 16 < 0 by omega), cond_true]
    unfold openL
    rw [if_pos h16]
  · obtain ⟨n, hnl⟩ : ∃ n, n + 16 = b.length := ⟨b.length - 16, by omega⟩
    have e0 : IntKind.i64.wrap (nI (rowLen 1 b) - 16) = (n : Int) := by
      show IntKind.i64.wrap ((b.length : Int) - 16) = _
      rw [show (b.length : Int) - 16 = (n : Int) by omega]; exact wi64 (by omega)
    have hhi : hiOk (some (n : Int)) (rowLen 1 b) = true := hiOk_nat (by show n ≤ b.length; omega)
    have hsub : Go.Eng.sub b (plusO Off.z 1 Option.none) (mulE (Go.Eng.subN (hiNat (Option.some (n : Int)) (rowLen 1 b)) Option.none) 1) = b.take n := by
      show b.take (mulE ((n : Int)).toNat 1) = _
      rw [Int.toNat_natCast, mulE_one]
    have bt : Bytes (b.take n) := bytes_take bb n
    have ltk : (b.take n).length ≤ limT := by rw [List.length_take]; exact Nat.le_trans (Nat.min_le_right _ _) lb
    dsimp only
    rw [e0, decide_eq_false (show ¬ ((n : Int) < 0) by omega), cond_false, hhi, cond_true, hsub]
    rw [okT_def, hk, hn, ha, okY_mk (n := limT) ltk bt, Bool.and_self, Bool.and_self, cond_true, tagS_def]
    refine (open_loop (N := 17) (fun w => k [DV.lst (.one IntKind.u8) 1 [], DV.v (SV.one (At.int IntKind.i64 w))]) _ hnl (by omega) (tag_len ba bt) 16 0 rfl 17 (by decide)).trans ?_
    rw [Nat.add_zero, List.drop_zero, hhi, cond_true, hsub, okSt_def, hk, hn, show Nat.ble (b.take n).length limT = true from Nat.ble_eq_true_of_le ltk, streamS_def]
    simp only [Bool.and_self, cond_true]
    unfold openL
    rw [if_neg h16, show b.length - 16 = n by omega, show (b.drop n).take 16 = b.drop n from List.take_of_length_le (by rw [List.length_drop]; omega)]
    by_cases he : b.drop n = tagL key nonce a (b.take n)
    · rw [decide_eq_true he, cond_true, if_pos he.symm]
    · rw [decide_eq_false he, cond_false, if_neg (fun e => he e.symm)]
noncomputable def I27 : (R : Type) → List DV → (List DV → Option R) → Option R := fun _ ds k => match ds with
  | [.v (.one (.ints .u8 32 key)), .v (.one (.ints .u8 12 nonce)), .lst (.one .u8) 1 a, .lst (.one .u8) 1 b] => cond (okT key nonce a b) (k [.lst (.one .u8) 1 (openL key nonce a b).1, .v (.one (.int .i64 (openL key nonce a b).2))]) none
  | _ => none
theorem c27 : Contract Try.prog 27 { sig := S27, impl := I27 } := by
  refine Contract.refine fun R ds k r h => ⟨_, f27_contract 17 Q29_ok, ?_⟩
  unfold I27 at h
  split at h
  · rename_i key nonce a b
    rw [okT_def] at h
    cases hc : ((okN 32 key && okN 12 nonce) && (okY limT a && okY limT b)) with
    | true =>
      rw [hc] at h
      simp only [Bool.and_eq_true] at hc
      rw [f27_raw_eq, f27_spec hc.1.1 hc.1.2 hc.2.1 hc.2.2]; exact h
    | false => rw [hc] at h; cases h
  · cases h
end Go.Proofs.Ytiaddnmloonhgaa

/- Contexts with the document's sealing and opening. -/
namespace Go.Proofs.Ytiaddnmloonhgaa
open Go Go.Eng
set_option maxRecDepth 100000
noncomputable def QE0 : Ctx := (29, { sig := S29, impl := I29 }) :: (27, { sig := S27, impl := I27 }) :: QM0
theorem QE0_ok : CtxOk Try.prog QE0 := ctxOk_cons ok29 rfl c29 (ctxOk_cons ok27 rfl c27 QM0_ok)
noncomputable def QE : Ctx := (999999, noFI) :: QE0
theorem QE_ok : CtxOk Try.prog QE := ctxOk_prune QE0_ok
def start5s (n : Nat) (key nonce a b : List Int) : AS :=
  { n := n, lo := 0, tmps := [(0, .s (.one (.ints .u8 32 key))), (1, .s (.one (.ints .u8 12 nonce))), (2, .s (.one (.own 2))), (3, .s (.one (.own 3)))], items := [(2, .view (.one .u8) 1 a), (3, .view (.one .u8) 1 b)] }
end Go.Proofs.Ytiaddnmloonhgaa

/- Opening, as something into which no reckoning looks. -/
namespace Go.Proofs.Ytiaddnmloonhgaa
open Go Go.Eng
set_option maxRecDepth 100000
noncomputable def openT : List Int → List Int → List Int → List Int → List Int := (stkD fun key nonce a b => (openL key nonce a b).1).1
theorem openT_def (key nonce a b : List Int) : openT key nonce a b = (openL key nonce a b).1 := congrFun (congrFun (congrFun (congrFun (stkD fun key nonce a b => (openL key nonce a b).1).2 key) nonce) a) b
noncomputable def openE : List Int → List Int → List Int → List Int → Int := (stkD fun key nonce a b => (openL key nonce a b).2).1
theorem openE_def (key nonce a b : List Int) : openE key nonce a b = (openL key nonce a b).2 := congrFun (congrFun (congrFun (congrFun (stkD fun key nonce a b => (openL key nonce a b).2).2 key) nonce) a) b
noncomputable def okAB : List Int → List Int → Bool := (stkD fun (a b : List Int) => Nat.ble a.length lim5 && Nat.ble b.length lim5).1
theorem okAB_def (a b : List Int) : okAB a b = (Nat.ble a.length lim5 && Nat.ble b.length lim5) := congrFun (congrFun (stkD fun (a b : List Int) => Nat.ble a.length lim5 && Nat.ble b.length lim5).2 a) b
noncomputable def J26 : (R : Type) → List DV → (List DV → Option R) → Option R := fun _ ds k => match ds with
  | [.v (.one (.ints .u8 32 key)), .v (.one (.ints .u8 12 nonce)), .lst (.one .u8) 1 a, .lst (.one .u8) 1 b] =>
    cond (okAB a b) (k [.lst (.one .u8) 1 (openT key nonce a b), .v (.one (.int .i64 (openE key nonce a b)))]) none
  | _ => none
theorem d26 : Contract Try.prog 26 { sig := S26, impl := J26 } := by
  refine Contract.refine fun R ds k r h => ⟨_, c26, ?_⟩
  unfold J26 at h
  split at h
  · rw [okAB_def, openT_def, openE_def] at h; exact h
  · cases h
noncomputable def J27 : (R : Type) → List DV → (List DV → Option R) → Option R := fun _ ds k => match ds with
  | [.v (.one (.ints .u8 32 key)), .v (.one (.ints .u8 12 nonce)), .lst (.one .u8) 1 a, .lst (.one .u8) 1 b] =>
    cond (okT key nonce a b) (k [.lst (.one .u8) 1 (openT key nonce a b), .v (.one (.int .i64 (openE key nonce a b)))]) none
  | _ => none
theorem d27 : Contract Try.prog 27 { sig := S27, impl := J27 } := by
  refine Contract.refine fun R ds k r h => ⟨_, c27, ?_⟩
  unfold J27 at h
  split at h
  · rw [openT_def, openE_def] at h; exact h
  · cases h
noncomputable def Q33 : Ctx := (26, { sig := S26, impl := J26 }) :: (42, { sig := S42, impl := I42 }) :: []
theorem Q33_ok : CtxOk Try.prog Q33 := ctxOk_cons ok26 rfl d26 (ctxOk_cons ok42 rfl c42 ctxOk_nil)
noncomputable def Q34 : Ctx := (27, { sig := S27, impl := J27 }) :: []
theorem Q34_ok : CtxOk Try.prog Q34 := ctxOk_cons ok27 rfl d27 ctxOk_nil
end Go.Proofs.Ytiaddnmloonhgaa

/- What rime/seal.Unbox comes to. MADE BY PROGRAM (wip/tools/mkfn.py, EngGen.lean). -/
namespace Go.Proofs.Ytiaddnmloonhgaa
open Go Go.Eng
set_option maxRecDepth 100000
set_option linter.unusedVariables false

noncomputable def f33_raw {R : Type} (N : Nat) (key : List Int) (a : List Int) (b : List Int) (k : List DV → Option R) : Option R :=
 bif Decidable.decide (nI (rowLen 1 b) < 28) then k [DV.lst (.one IntKind.u8) 1 [], DV.v (SV.one (At.int IntKind.u64 0)), DV.v (SV.one (At.int IntKind.i64 3))]
else
 bif hiOk (Option.some 4) (rowLen 1 b) then
 bif !Decidable.decide (List.take 4 (List.drop 0 b) = List.replicate 4 0) then k [DV.lst (.one IntKind.u8) 1 [], DV.v (SV.one (At.int IntKind.u64 0)), DV.v (SV.one (At.int IntKind.i64 1))]
 else
 bif hiOk (Option.some 12) (rowLen 1 b) then
 bif loOk (Option.some 12) (hiInt Option.none (rowLen 1 b)) then
 let v0 : List Int := Go.Eng.sub b (plusO Off.z 1 (Option.some 12)) (mulE (Go.Eng.subN (hiNat Option.none (rowLen 1 b)) (Option.some 12)) 1);
 bif okAB a v0 then
 bif openE key (List.take 12 (List.drop 0 b)) a v0 != 0 then k [DV.lst (.one IntKind.u8) 1 [], DV.v (SV.one (At.int IntKind.u64 0)), DV.v (SV.one (At.int IntKind.i64 (openE key (List.take 12 (List.drop 0 b)) a v0)))]
 else
 bif hiOk (Option.some 12) (rowLen 1 b) then
 let v1 : List Int := Go.Eng.sub b (plusO Off.z 1 (Option.some 4)) (mulE (Go.Eng.subN (hiNat (Option.some 12) (rowLen 1 b)) (Option.some 4)) 1);
 bif v1.length.ble 1048576 then k [DV.lst (.one IntKind.u8) 1 (openT key (List.take 12 (List.drop 0 b)) a v0), DV.v (SV.one (At.int IntKind.u64 (lowL v1))), DV.v (SV.one (At.int IntKind.i64 0))] else Option.none
 else Option.none
 else Option.none
 else Option.none
 else Option.none
 else Option.none


noncomputable def E33 (N : Nat) : Env := { Θ := Th, Γ := Q33, K := K33, ν := N33, fuel := 0, lp := [] }


theorem f33_contract (N : Nat) (hΓ : CtxOk Try.prog Q33) : Contract Try.prog 33 { sig := S33, impl := fun _ ds k => call (E33 N) S33 39 B33 R33 ds k } :=
  call_contract (E := E33 N) thOk hΓ mixed ok33.look ok33.body ok33.n ok33.rv ok33.name rfl (by decide) (loopsOk_of (l := []) (by kernel_rfl) trivial)
theorem f33_raw_eq {R : Type} (N : Nat) (key : List Int) (a : List Int) (b : List Int) (k : List DV → Option R) : call (E33 N) S33 39 B33 R33 [.v (.one (.ints .u8 32 key)), .lst (.one .u8) 1 a, .lst (.one .u8) 1 b] k = f33_raw N key a b k := by kernel_rfl
end Go.Proofs.Ytiaddnmloonhgaa

/- Unbox: the program's. -/
namespace Go.Proofs.Ytiaddnmloonhgaa
open Go Go.Eng
set_option maxRecDepth 100000
noncomputable def unboxL (key a b : List Int) : List Int × Int × Int :=
  if b.length < 28 then ([], 0, 3)
  else if b.take 4 = List.replicate 4 0 then
    (if openE key (b.take 12) a (b.drop 12) = 0 then (openT key (b.take 12) a (b.drop 12), lowL ((b.drop 4).take 8), 0) else ([], 0, openE key (b.take 12) a (b.drop 12)))
  else ([], 0, 1)
noncomputable def unT : List Int → List Int → List Int → List Int := (stkD fun key a b => (unboxL key a b).1).1
theorem unT_def (key a b : List Int) : unT key a b = (unboxL key a b).1 := congrFun (congrFun (congrFun (stkD fun key a b => (unboxL key a b).1).2 key) a) b
noncomputable def unN : List Int → List Int → List Int → Int := (stkD fun key a b => (unboxL key a b).2.1).1
theorem unN_def (key a b : List Int) : unN key a b = (unboxL key a b).2.1 := congrFun (congrFun (congrFun (stkD fun key a b => (unboxL key a b).2.1).2 key) a) b
noncomputable def unE : List Int → List Int → List Int → Int := (stkD fun key a b => (unboxL key a b).2.2).1
theorem unE_def (key a b : List Int) : unE key a b = (unboxL key a b).2.2 := congrFun (congrFun (congrFun (stkD fun key a b => (unboxL key a b).2.2).2 key) a) b
theorem f33_spec {R : Type} {key a b : List Int} (ha : a.length ≤ 1073741824) (hb : b.length ≤ 1073741824) (k : List DV → Option R) :
    f33_raw 0 key a b k = k [.lst (.one .u8) 1 (unboxL key a b).1, .v (.one (.int .u64 (unboxL key a b).2.1)), .v (.one (.int .i64 (unboxL key a b).2.2))] := by
  unfold f33_raw unboxL
  have el : nI (rowLen 1 b) = (b.length : Int) := rfl
  by_cases h1 : b.length < 28
  · rw [el, decide_eq_true (show (b.length : Int) < 28 by omega), cond_true, if_pos h1]
  · rw [el, decide_eq_false (show ¬ ((b.length : Int) < 28) by omega), cond_false, if_neg h1]
    have h4 : hiOk (some 4) (rowLen 1 b) = true := hiOk_nat (n := 4) (by show 4 ≤ b.length; omega)
    have h12 : hiOk (some 12) (rowLen 1 b) = true := hiOk_nat (n := 12) (by show 12 ≤ b.length; omega)
    have l12 : loOk (some 12) (hiInt none (rowLen 1 b)) = true := loOk_nat (n := 12) (by show ((12 : Nat) : Int) ≤ (b.length : Int); omega)
    rw [h4, cond_true, List.drop_zero]
    by_cases h0 : b.take 4 = List.replicate 4 0
    · have hs : Go.Eng.sub b (plusO Off.z 1 (Option.some 12)) (mulE (Go.Eng.subN (hiNat Option.none (rowLen 1 b)) (Option.some 12)) 1) = b.drop 12 := by
        show (b.drop 12).take (b.length - 12) = b.drop 12
        exact List.take_of_length_le (by rw [List.length_drop]; omega)
      have hs2 : Go.Eng.sub b (plusO Off.z 1 (Option.some 4)) (mulE (Go.Eng.subN (hiNat (Option.some 12) (rowLen 1 b)) (Option.some 4)) 1) = (b.drop 4).take 8 := rfl
      rw [decide_eq_true h0, Bool.not_true, cond_false, h12, cond_true, l12, cond_true, if_pos h0]
      dsimp only
      rw [hs, hs2, okAB_def, show Nat.ble a.length lim5 = true from Nat.ble_eq_true_of_le (by unfold lim5; omega), show Nat.ble (b.drop 12).length lim5 = true from Nat.ble_eq_true_of_le (by rw [List.length_drop]; unfold lim5; omega), Bool.and_self, cond_true]
      by_cases he : openE key (b.take 12) a (b.drop 12) = 0
      · rw [if_pos he, he, show ((0 : Int) != 0) = false from rfl, cond_false, cond_true]
        rw [show ((b.drop 4).take 8).length.ble 1048576 = true from Nat.ble_eq_true_of_le (by rw [List.length_take]; omega), cond_true]
      · rw [if_neg he, show (openE key (b.take 12) a (b.drop 12) != 0) = true by simpa using he, cond_true]
    · rw [decide_eq_false h0, Bool.not_false, cond_true, if_neg h0]
noncomputable def okUn : List Int → List Int → Bool := (stkD fun (a b : List Int) => Nat.ble a.length limT && Nat.ble b.length limT).1
theorem okUn_def (a b : List Int) : okUn a b = (Nat.ble a.length limT && Nat.ble b.length limT) := congrFun (congrFun (stkD fun (a b : List Int) => Nat.ble a.length limT && Nat.ble b.length limT).2 a) b
noncomputable def I33 : (R : Type) → List DV → (List DV → Option R) → Option R := fun _ ds k => match ds with
  | [.v (.one (.ints .u8 32 key)), .lst (.one .u8) 1 a, .lst (.one .u8) 1 b] => cond (okUn a b) (k [.lst (.one .u8) 1 (unT key a b), .v (.one (.int .u64 (unN key a b))), .v (.one (.int .i64 (unE key a b)))]) none
  | _ => none
theorem c33 : Contract Try.prog 33 { sig := S33, impl := I33 } := by
  refine Contract.refine fun R ds k r h => ⟨_, f33_contract 0 Q33_ok, ?_⟩
  unfold I33 at h
  split at h
  · rename_i key a b
    rw [okUn_def] at h
    cases hc : (Nat.ble a.length limT && Nat.ble b.length limT) with
    | true =>
      rw [hc, unT_def, unN_def, unE_def] at h
      rw [Bool.and_eq_true] at hc
      rw [f33_raw_eq, f33_spec (Nat.le_of_ble_eq_true hc.1) (Nat.le_of_ble_eq_true hc.2)]; exact h
    | false => rw [hc] at h; cases h
  · cases h
end Go.Proofs.Ytiaddnmloonhgaa

/- What rime/rimeref12.Unbox comes to. MADE BY PROGRAM (wip/tools/mkfn.py, EngGen.lean). -/
namespace Go.Proofs.Ytiaddnmloonhgaa
open Go Go.Eng
set_option maxRecDepth 100000
set_option linter.unusedVariables false

noncomputable def f34_raw {R : Type} (N : Nat) (key : List Int) (a : List Int) (b : List Int) (k : List DV → Option R) : Option R :=
 bif Decidable.decide (nI (rowLen 1 b) < 28) then k [DV.lst (.one IntKind.u8) 1 [], DV.v (SV.one (At.int IntKind.u64 0)), DV.v (SV.one (At.int IntKind.i64 3))]
else
 bif Decidable.decide (0 ≤ 0) && Decidable.decide (0 < nI (rowLen 1 b)) then
 bif b.getD (mulE (Int.toNat 0) 1) 0 != 0 then k [DV.lst (.one IntKind.u8) 1 [], DV.v (SV.one (At.int IntKind.u64 0)), DV.v (SV.one (At.int IntKind.i64 1))]
 else
 bif Decidable.decide (0 ≤ 1) && Decidable.decide (1 < nI (rowLen 1 b)) then
 let v0 : Bool := bif Bool.false then Bool.true else b.getD (mulE (Int.toNat 1) 1) 0 != 0;
 bif v0 then k [DV.lst (.one IntKind.u8) 1 [], DV.v (SV.one (At.int IntKind.u64 0)), DV.v (SV.one (At.int IntKind.i64 1))]
 else
 bif Decidable.decide (0 ≤ 2) && Decidable.decide (2 < nI (rowLen 1 b)) then
 let v1 : Bool := bif Bool.false then Bool.true else b.getD (mulE (Int.toNat 2) 1) 0 != 0;
 bif v1 then k [DV.lst (.one IntKind.u8) 1 [], DV.v (SV.one (At.int IntKind.u64 0)), DV.v (SV.one (At.int IntKind.i64 1))]
 else
 bif Decidable.decide (0 ≤ 3) && Decidable.decide (3 < nI (rowLen 1 b)) then
 let v2 : Bool := bif Bool.false then Bool.true else b.getD (mulE (Int.toNat 3) 1) 0 != 0;
 bif v2 then k [DV.lst (.one IntKind.u8) 1 [], DV.v (SV.one (At.int IntKind.u64 0)), DV.v (SV.one (At.int IntKind.i64 1))]
 else
 bif Decidable.decide (0 ≤ 11) && Decidable.decide (11 < nI (rowLen 1 b)) then
 let v3 : Int := IntKind.i64.wrap (11 - 1);
 bif Decidable.decide (0 ≤ v3) && Decidable.decide (v3 < nI (rowLen 1 b)) then
 let v4 : Int := IntKind.i64.wrap (v3 - 1);
 bif Decidable.decide (0 ≤ v4) && Decidable.decide (v4 < nI (rowLen 1 b)) then
 let v5 : Int := IntKind.i64.wrap (v4 - 1);
 bif Decidable.decide (0 ≤ v5) && Decidable.decide (v5 < nI (rowLen 1 b)) then
 let v6 : Int := IntKind.i64.wrap (v5 - 1);
 bif Decidable.decide (0 ≤ v6) && Decidable.decide (v6 < nI (rowLen 1 b)) then
 let v7 : Int := IntKind.i64.wrap (v6 - 1);
 bif Decidable.decide (0 ≤ v7) && Decidable.decide (v7 < nI (rowLen 1 b)) then
 let v8 : Int := IntKind.i64.wrap (v7 - 1);
 bif Decidable.decide (0 ≤ v8) && Decidable.decide (v8 < nI (rowLen 1 b)) then
 let v9 : Int := IntKind.i64.wrap (v8 - 1);
 bif Decidable.decide (0 ≤ v9) && Decidable.decide (v9 < nI (rowLen 1 b)) then
 bif loOk (Option.some 12) (hiInt Option.none (rowLen 1 b)) then
 let v10 : Nat := Min.min (rowLen 1 b) (Go.Eng.subN (hiNat Option.none 12) Option.none);
 let v11 : List Int := splice (List.replicate 12 0) (plusO Off.z 1 Option.none) (List.take (mulE v10 1) b);
 let v12 : List Int := Go.Eng.sub b (plusO Off.z 1 (Option.some 12)) (mulE (Go.Eng.subN (hiNat Option.none (rowLen 1 b)) (Option.some 12)) 1);
 bif okT key v11 a v12 then
 bif openE key v11 a v12 != 0 then k [DV.lst (.one IntKind.u8) 1 [], DV.v (SV.one (At.int IntKind.u64 0)), DV.v (SV.one (At.int IntKind.i64 (openE key v11 a v12)))]
 else
 let v13 : Int := shlI IntKind.u64 0 8;
 let v14 : Int := IntKind.u64.wrap (b.getD (mulE (Int.toNat 11) 1) 0);
 let v15 : Int := orI IntKind.u64 v13 v14;
 let v16 : Int := shlI IntKind.u64 v15 8;
 let v17 : Int := IntKind.u64.wrap (b.getD (mulE v3.toNat 1) 0);
 let v18 : Int := orI IntKind.u64 v16 v17;
 let v19 : Int := shlI IntKind.u64 v18 8;
 let v20 : Int := IntKind.u64.wrap (b.getD (mulE v4.toNat 1) 0);
 let v21 : Int := orI IntKind.u64 v19 v20;
 let v22 : Int := shlI IntKind.u64 v21 8;
 let v23 : Int := IntKind.u64.wrap (b.getD (mulE v5.toNat 1) 0);
 let v24 : Int := orI IntKind.u64 v22 v23;
 let v25 : Int := shlI IntKind.u64 v24 8;
 let v26 : Int := IntKind.u64.wrap (b.getD (mulE v6.toNat 1) 0);
 let v27 : Int := orI IntKind.u64 v25 v26;
 let v28 : Int := shlI IntKind.u64 v27 8;
 let v29 : Int := IntKind.u64.wrap (b.getD (mulE v7.toNat 1) 0);
 let v30 : Int := orI IntKind.u64 v28 v29;
 let v31 : Int := shlI IntKind.u64 v30 8;
 let v32 : Int := IntKind.u64.wrap (b.getD (mulE v8.toNat 1) 0);
 let v33 : Int := orI IntKind.u64 v31 v32;
 let v34 : Int := shlI IntKind.u64 v33 8;
 let v35 : Int := IntKind.u64.wrap (b.getD (mulE v9.toNat 1) 0);
 let v36 : Int := orI IntKind.u64 v34 v35;
 k [DV.lst (.one IntKind.u8) 1 (openT key v11 a v12), DV.v (SV.one (At.int IntKind.u64 v36)), DV.v (SV.one (At.int IntKind.i64 0))]
 else Option.none
 else Option.none
 else Option.none
 else Option.none
 else Option.none
 else Option.none
 else Option.none
 else Option.none
 else Option.none
 else Option.none
 else Option.none
 else Option.none
 else Option.none
 else Option.none


noncomputable def E34 (N : Nat) : Env := { Θ := Th, Γ := Q34, K := K34, ν := N34, fuel := 20, lp := [] }


theorem f34_contract (N : Nat) (hΓ : CtxOk Try.prog Q34) : Contract Try.prog 34 { sig := S34, impl := fun _ ds k => call (E34 N) S34 68 B34 R34 ds k } :=
  call_contract (E := E34 N) thOk hΓ mixed ok34.look ok34.body ok34.n ok34.rv ok34.name rfl (by decide) (loopsOk_of (l := [(0, B34_0)]) (by kernel_rfl) (allOk_skip rfl trivial))
theorem f34_raw_eq {R : Type} (N : Nat) (key : List Int) (a : List Int) (b : List Int) (k : List DV → Option R) : call (E34 N) S34 68 B34 R34 [.v (.one (.ints .u8 32 key)), .lst (.one .u8) 1 a, .lst (.one .u8) 1 b] k = f34_raw N key a b k := by kernel_rfl
end Go.Proofs.Ytiaddnmloonhgaa

/- Numbers of up to eight bytes. -/
namespace Go.Proofs.Ytiaddnmloonhgaa
open Go Go.Eng
set_option maxRecDepth 100000
theorem lowGo_nat : ∀ (l : List Nat) (i n : Nat), (∀ x ∈ l, x < 256) → i + l.length ≤ 8 → n < 256 ^ i → lowGo (nats l) i (n : Int) = ((n + valB 256 l * 256 ^ i : Nat) : Int)
  | [], i, n, _, _, _ => by simp [nats, lowGo, valB]
  | x :: l, i, n, hb, hl, hn => by
    have hx := hb x (.head _)
    rw [List.length_cons] at hl
    have h64 : (256 : Nat) ^ 8 = 18446744073709551616 := by decide +kernel
    have hp : (256 : Nat) ^ (i + 1) ≤ 18446744073709551616 := by
      rw [← h64]; exact Nat.pow_le_pow_right (by decide) (by omega)
    have hxp : x * 256 ^ i < 256 ^ (i + 1) := by
      rw [Nat.pow_succ, Nat.mul_comm]; exact Nat.mul_lt_mul_of_pos_left hx (Nat.pow_pos (by decide))
    have hsum : n + x * 256 ^ i < 256 ^ (i + 1) := by
      have : (x + 1) * 256 ^ i ≤ 256 * 256 ^ i := Nat.mul_le_mul_right _ (by omega)
      rw [Nat.add_mul, Nat.one_mul] at this
      rw [Nat.pow_succ, Nat.mul_comm (256 ^ i)]
      omega
    have hn' : n < 18446744073709551616 := by omega
    have hx' : x * 256 ^ i < 18446744073709551616 := by omega
    show lowGo (nats l) (i + 1) (orI .u64 (n : Int) (shlI .u64 (IntKind.u64.wrap (x : Int)) (8 * (i : Int)))) = _
    rw [w64 (n := x) (by omega), show (8 : Int) * (i : Int) = ((8 * i : Nat) : Int) by omega, shlN (k := .u64) rfl (m := 8 * i) (by show 8 * i ≤ 64; omega), bits64, ← pow256, Nat.mod_eq_of_lt hx']
    rw [orN (k := .u64) rfl (by rw [bits64]; exact hn') (by rw [bits64]; exact hx'), pow256, or_addN' (by rw [← pow256]; exact hn), ← pow256]
    rw [lowGo_nat l (i + 1) _ (fun y hy => hb y (.tail _ hy)) (by omega) hsum]
    congr 1
    rw [valB_cons, Nat.pow_succ, Nat.add_mul, Nat.add_assoc, Nat.mul_comm (256 ^ i) 256, ← Nat.mul_assoc, Nat.mul_comm 256 (valB 256 l)]
theorem lowL_nats {l : List Nat} (hb : ∀ x ∈ l, x < 256) (hl : l.length ≤ 8) : lowL (nats l) = ((valB 256 l : Nat) : Int) := by
  have := lowGo_nat l 0 0 hb (by omega) (by decide)
  rw [Nat.zero_add, Nat.pow_zero, Nat.mul_one] at this
  exact this
theorem horner {v x : Nat} (hv : v < 72057594037927936) (hx : x < 256) : orI .u64 (shlI .u64 (v : Int) 8) (IntKind.u64.wrap (x : Int)) = ((v * 256 + x : Nat) : Int) := by
  rw [w64 (n := x) (by omega), show (8 : Int) = ((8 : Nat) : Int) from rfl, shlN (k := .u64) rfl (m := 8) (by decide), bits64, show (2 : Nat) ^ 8 = 256 from rfl, Nat.mod_eq_of_lt (by omega)]
  rw [orN (k := .u64) rfl (by rw [bits64]; omega) (by rw [bits64]; omega), show (256 : Nat) = 2 ^ 8 from rfl, or_addN (show x < 2 ^ 8 by omega)]
end Go.Proofs.Ytiaddnmloonhgaa

/- Unbox: the document's. -/
namespace Go.Proofs.Ytiaddnmloonhgaa
open Go Go.Eng
set_option maxRecDepth 100000
def inB (b : List Int) (i : Int) : Bool := Decidable.decide (0 ≤ i) && Decidable.decide (i < nI (rowLen 1 b))
def e3 : List DV := [DV.lst (.one IntKind.u8) 1 [], DV.v (SV.one (At.int IntKind.u64 0)), DV.v (SV.one (At.int IntKind.i64 3))]
def e1 : List DV := [DV.lst (.one IntKind.u8) 1 [], DV.v (SV.one (At.int IntKind.u64 0)), DV.v (SV.one (At.int IntKind.i64 1))]
def hz (b : List Int) : Nat → Int → Int
  | 0, v => v
  | m + 1, v => hz b m (orI .u64 (shlI .u64 v 8) (IntKind.u64.wrap (b.getD (4 + m) 0)))
theorem f34_clean {R : Type} (key a b : List Int) (k : List DV → Option R) : f34_raw 0 key a b k =
    bif decide (nI (rowLen 1 b) < 28) then k e3 else
    bif inB b 0 then bif b.getD 0 0 != 0 then k e1 else
    bif inB b 1 then bif b.getD 1 0 != 0 then k e1 else
    bif inB b 2 then bif b.getD 2 0 != 0 then k e1 else
    bif inB b 3 then bif b.getD 3 0 != 0 then k e1 else
    bif inB b 11 then bif inB b 10 then bif inB b 9 then bif inB b 8 then bif inB b 7 then bif inB b 6 then bif inB b 5 then bif inB b 4 then
    bif loOk (Option.some 12) (hiInt Option.none (rowLen 1 b)) then
    bif okT key (splice (List.replicate 12 0) (plusO Off.z 1 Option.none) (List.take (mulE (min (rowLen 1 b) (Go.Eng.subN (hiNat Option.none 12) Option.none)) 1) b)) a (Go.Eng.sub b (plusO Off.z 1 (Option.some 12)) (mulE (Go.Eng.subN (hiNat Option.none (rowLen 1 b)) (Option.some 12)) 1)) then
    bif openE key (splice (List.replicate 12 0) (plusO Off.z 1 Option.none) (List.take (mulE (min (rowLen 1 b) (Go.Eng.subN (hiNat Option.none 12) Option.none)) 1) b)) a (Go.Eng.sub b (plusO Off.z 1 (Option.some 12)) (mulE (Go.Eng.subN (hiNat Option.none (rowLen 1 b)) (Option.some 12)) 1)) != 0 then
      k [DV.lst (.one IntKind.u8) 1 [], DV.v (SV.one (At.int IntKind.u64 0)), DV.v (SV.one (At.int IntKind.i64 (openE key (splice (List.replicate 12 0) (plusO Off.z 1 Option.none) (List.take (mulE (min (rowLen 1 b) (Go.Eng.subN (hiNat Option.none 12) Option.none)) 1) b)) a (Go.Eng.sub b (plusO Off.z 1 (Option.some 12)) (mulE (Go.Eng.subN (hiNat Option.none (rowLen 1 b)) (Option.some 12)) 1)))))]
    else k [DV.lst (.one IntKind.u8) 1 (openT key (splice (List.replicate 12 0) (plusO Off.z 1 Option.none) (List.take (mulE (min (rowLen 1 b) (Go.Eng.subN (hiNat Option.none 12) Option.none)) 1) b)) a (Go.Eng.sub b (plusO Off.z 1 (Option.some 12)) (mulE (Go.Eng.subN (hiNat Option.none (rowLen 1 b)) (Option.some 12)) 1))), DV.v (SV.one (At.int IntKind.u64 (hz b 8 0))), DV.v (SV.one (At.int IntKind.i64 0))]
    else none else none else none else none else none else none else none else none else none else none else none else none else none else none := by kernel_rfl
end Go.Proofs.Ytiaddnmloonhgaa

/- Unbox: the document's contract. -/
namespace Go.Proofs.Ytiaddnmloonhgaa
open Go Go.Eng
set_option maxRecDepth 100000
theorem hz_nat {l : List Nat} (hb : ∀ x ∈ l, x < 256) : ∀ (m v : Nat), 4 + m ≤ l.length → m ≤ 8 → v < 256 ^ (8 - m) → hz (nats l) m (v : Int) = ((v * 256 ^ m + valB 256 ((l.drop 4).take m) : Nat) : Int)
  | 0, v, _, _, _ => by simp [hz, valB]
  | m + 1, v, hl, hm, hv => by
    have hx : l.getD (4 + m) 0 < 256 := by
      rw [List.getD_eq_getElem?_getD, List.getElem?_eq_getElem (by omega)]; exact hb _ (List.getElem_mem _)
    have h7 : (256 : Nat) ^ 7 = 72057594037927936 := by decide +kernel
    have hv7 : v < 72057594037927936 := by
      rw [← h7]; exact Nat.lt_of_lt_of_le hv (Nat.pow_le_pow_right (by decide) (by omega))
    have hlast : valB 256 ((l.drop 4).take (m + 1)) = valB 256 ((l.drop 4).take m) + l.getD (4 + m) 0 * 256 ^ m := by
      have := take_valY (l.drop 4) (i := m) (by rw [List.length_drop]; omega)
      rw [this, List.getD_eq_getElem?_getD, List.getElem?_drop, ← List.getD_eq_getElem?_getD]
    show hz (nats l) m (orI .u64 (shlI .u64 (v : Int) 8) (IntKind.u64.wrap ((nats l).getD (4 + m) 0))) = _
    rw [nats_getD, horner hv7 hx]
    have h3 : v * 256 + l.getD (4 + m) 0 < 256 ^ (8 - m) := by
      rw [show 8 - m = (8 - (m + 1)) + 1 by omega, Nat.pow_succ]
      have : (v + 1) * 256 ≤ 256 ^ (8 - (m + 1)) * 256 := Nat.mul_le_mul_right _ hv
      omega
    rw [hz_nat hb m _ (by omega) (by omega) h3, hlast]
    congr 1
    rw [Nat.add_mul, Nat.pow_succ, Nat.mul_assoc, Nat.mul_comm 256 (256 ^ m)]
    omega
end Go.Proofs.Ytiaddnmloonhgaa

/- Unbox: the document's contract, joined. -/
namespace Go.Proofs.Ytiaddnmloonhgaa
open Go Go.Eng
set_option maxRecDepth 100000
theorem f34_spec {R : Type} {key a b : List Int} (hk : okN 32 key = true) (ha : okY limT a = true) (hb : okY limT b = true) (k : List DV → Option R) :
    f34_raw 0 key a b k = k [.lst (.one .u8) 1 (unboxL key a b).1, .v (.one (.int .u64 (unboxL key a b).2.1)), .v (.one (.int .i64 (unboxL key a b).2.2))] := by
  obtain ⟨lb, bb⟩ := okY_bytes hb
  have lb' : b.length ≤ 1073741824 := lb
  rw [f34_clean]
  unfold unboxL
  have el : nI (rowLen 1 b) = (b.length : Int) := rfl
  by_cases h1 : b.length < 28
  · rw [el, decide_eq_true (show (b.length : Int) < 28 by omega), cond_true, if_pos h1]; rfl
  · have hin : ∀ i : Nat, i < 28 → inB b (i : Int) = true := fun i hi => by
      unfold inB
      rw [el, decide_eq_true (show (0 : Int) ≤ (i : Int) by omega), decide_eq_true (show (i : Int) < (b.length : Int) by omega)]; rfl
    have l12 : loOk (some 12) (hiInt none (rowLen 1 b)) = true := loOk_nat (n := 12) (by show ((12 : Nat) : Int) ≤ (b.length : Int); omega)
    rw [el, decide_eq_false (show ¬ ((b.length : Int) < 28) by omega), cond_false, if_neg h1]
    rw [show inB b 0 = true from hin 0 (by omega), show inB b 1 = true from hin 1 (by omega), show inB b 2 = true from hin 2 (by omega), show inB b 3 = true from hin 3 (by omega), show inB b 4 = true from hin 4 (by omega), show inB b 5 = true from hin 5 (by omega), show inB b 6 = true from hin 6 (by omega), show inB b 7 = true from hin 7 (by omega), show inB b 8 = true from hin 8 (by omega), show inB b 9 = true from hin 9 (by omega), show inB b 10 = true from hin 10 (by omega), show inB b 11 = true from hin 11 (by omega), l12]
    simp only [cond_true]
    have ht4 : b.take 4 = [b.getD 0 0, b.getD 1 0, b.getD 2 0, b.getD 3 0] := by
      have := take4 (l := b) (i := 0) (by omega)
      rw [List.drop_zero] at this
      exact this
    have hs : Go.Eng.sub b (plusO Off.z 1 (Option.some 12)) (mulE (Go.Eng.subN (hiNat Option.none (rowLen 1 b)) (Option.some 12)) 1) = b.drop 12 := by
      show (b.drop 12).take (b.length - 12) = b.drop 12
      exact List.take_of_length_le (by rw [List.length_drop]; omega)
    have hn12 : splice (List.replicate 12 0) (plusO Off.z 1 Option.none) (List.take (mulE (min (rowLen 1 b) (Go.Eng.subN (hiNat Option.none 12) Option.none)) 1) b) = b.take 12 := by
      have e1 : List.take (mulE (min (rowLen 1 b) (Go.Eng.subN (hiNat Option.none 12) Option.none)) 1) b = b.take 12 := by
        show List.take (min b.length 12) b = _
        rw [Nat.min_eq_right (by omega)]
      rw [e1]
      show b.take 12 ++ (List.replicate 12 0).drop (b.take 12).length = _
      rw [List.length_take, Nat.min_eq_left (by omega)]; exact List.append_nil _
    rw [hs, hn12]
    have hne : ∀ {x : Int}, x ≠ 0 → (x != 0) = true := fun h => by simpa using h
    by_cases g0 : b.getD 0 0 = 0
    · by_cases g1 : b.getD 1 0 = 0
      · by_cases g2 : b.getD 2 0 = 0
        · by_cases g3 : b.getD 3 0 = 0
          · rw [if_pos (show b.take 4 = List.replicate 4 0 by rw [ht4, g0, g1, g2, g3]; rfl), g0, g1, g2, g3]
            have hT : okT key (b.take 12) a (b.drop 12) = true := by
              rw [okT_def, hk, okN_mk (by rw [List.length_take]; omega) (bytes_take bb 12), ha, okY_mk (n := limT) (by rw [List.length_drop]; unfold limT; omega) (fun x hx => bb x (List.mem_of_mem_drop hx))]; rfl
            rw [hT]
            simp only [show ((0 : Int) != 0) = false from rfl, cond_true, cond_false]
            by_cases he : openE key (b.take 12) a (b.drop 12) = 0
            · rw [if_pos he, he, show ((0 : Int) != 0) = false from rfl, cond_false]
              obtain ⟨l, hl⟩ := nats_of (xs := b) fun x hx => (bb x hx).1
              have hlb : ∀ x ∈ l, x < 256 := fun x hx => by
                have := (bb (x : Int) (by rw [hl]; unfold nats; exact List.mem_map.mpr ⟨x, hx, rfl⟩)).2
                omega
              have hll : l.length = b.length := by rw [hl, nats_length]
              have e8 : hz b 8 0 = lowL ((b.drop 4).take 8) := by
                rw [hl, nats_drop, nats_take, lowL_nats (fun x hx => hlb x (List.mem_of_mem_drop (List.mem_of_mem_take hx))) (List.length_take_le _ _)]
                have := hz_nat hlb 8 0 (by omega) (by decide) (by decide)
                rw [Nat.zero_mul, Nat.zero_add] at this
                exact this
              rw [e8]
            · rw [if_neg he, hne he, cond_true]
          · rw [if_neg (fun e => g3 (by rw [ht4] at e; injection e with _ e; injection e with _ e; injection e with _ e; injection e)), g0, g1, g2, hne g3]; rfl
        · rw [if_neg (fun e => g2 (by rw [ht4] at e; injection e with _ e; injection e with _ e; injection e)), g0, g1, hne g2]; rfl
      · rw [if_neg (fun e => g1 (by rw [ht4] at e; injection e with _ e; injection e)), g0, hne g1]; rfl
    · rw [if_neg (fun e => g0 (by rw [ht4] at e; injection e)), hne g0]; rfl
end Go.Proofs.Ytiaddnmloonhgaa

/- Unbox: contracts; context. -/
namespace Go.Proofs.Ytiaddnmloonhgaa
open Go Go.Eng
set_option maxRecDepth 100000
noncomputable def okU3 : List Int → List Int → List Int → Bool := (stkD fun (key a b : List Int) => okN 32 key && (okY limT a && okY limT b)).1
theorem okU3_def (key a b : List Int) : okU3 key a b = (okN 32 key && (okY limT a && okY limT b)) := congrFun (congrFun (congrFun (stkD fun (key a b : List Int) => okN 32 key && (okY limT a && okY limT b)).2 key) a) b
noncomputable def I34 : (R : Type) → List DV → (List DV → Option R) → Option R := fun _ ds k => match ds with
  | [.v (.one (.ints .u8 32 key)), .lst (.one .u8) 1 a, .lst (.one .u8) 1 b] => cond (okU3 key a b) (k [.lst (.one .u8) 1 (unT key a b), .v (.one (.int .u64 (unN key a b))), .v (.one (.int .i64 (unE key a b)))]) none
  | _ => none
theorem c34 : Contract Try.prog 34 { sig := S34, impl := I34 } := by
  refine Contract.refine fun R ds k r h => ⟨_, f34_contract 0 Q34_ok, ?_⟩
  unfold I34 at h
  split at h
  · rename_i key a b
    rw [okU3_def] at h
    cases hc : (okN 32 key && (okY limT a && okY limT b)) with
    | true =>
      rw [hc, unT_def, unN_def, unE_def] at h
      simp only [Bool.and_eq_true] at hc
      rw [f34_raw_eq, f34_spec hc.1 hc.2.1 hc.2.2]; exact h
    | false => rw [hc] at h; cases h
  · cases h
noncomputable def QU0 : Ctx := (33, { sig := S33, impl := I33 }) :: (34, { sig := S34, impl := I34 }) :: QM0
theorem QU0_ok : CtxOk Try.prog QU0 := ctxOk_cons ok33 rfl c33 (ctxOk_cons ok34 rfl c34 QM0_ok)
noncomputable def QU : Ctx := (999999, noFI) :: QU0
theorem QU_ok : CtxOk Try.prog QU := ctxOk_prune QU0_ok
def start11s (n : Nat) (key a b : List Int) : AS :=
  { n := n, lo := 0, tmps := [(0, .s (.one (.ints .u8 32 key))), (1, .s (.one (.own 1))), (2, .s (.one (.own 2)))], items := [(1, .view (.one .u8) 1 a), (2, .view (.one .u8) 1 b)] }
end Go.Proofs.Ytiaddnmloonhgaa

/- A context for what was sealed, with something turned. -/
namespace Go.Proofs.Ytiaddnmloonhgaa
open Go Go.Eng
set_option maxRecDepth 100000
noncomputable def QO0 : Ctx := (26, { sig := S26, impl := J26 }) :: (27, { sig := S27, impl := J27 }) :: (29, { sig := S29, impl := I29 }) :: QU0
theorem QO0_ok : CtxOk Try.prog QO0 := ctxOk_cons ok26 rfl d26 (ctxOk_cons ok27 rfl d27 (ctxOk_cons ok29 rfl c29 QU0_ok))
noncomputable def QO : Ctx := (999999, noFI) :: QO0
theorem QO_ok : CtxOk Try.prog QO := ctxOk_prune QO0_ok
end Go.Proofs.Ytiaddnmloonhgaa

/- Contexts for a sealer. -/
namespace Go.Proofs.Ytiaddnmloonhgaa
open Go Go.Eng
set_option maxRecDepth 100000
def Q69 : Ctx := (44, { sig := S44, impl := I44 }) :: []
theorem Q69_ok : CtxOk Try.prog Q69 := ctxOk_cons ok44 rfl c44 ctxOk_nil
end Go.Proofs.Ytiaddnmloonhgaa

/- What rime/seal.numbered comes to. MADE BY PROGRAM (wip/tools/mkfn.py, EngGen.lean). -/
namespace Go.Proofs.Ytiaddnmloonhgaa
open Go Go.Eng
set_option maxRecDepth 100000
set_option linter.unusedVariables false

noncomputable def f69_raw {R : Type} (N : Nat) (n : Int) (k : List DV → Option R) : Option R :=
 let v0 : Nat := Min.min (rowLen 1 (bytesL n (Int.toNat 8))) (Go.Eng.subN (hiNat Option.none 12) (Option.some 4));
let v1 : List Int := splice (List.replicate 12 0) (plusO Off.z 1 (Option.some 4)) (List.take (mulE v0 1) (bytesL n (Int.toNat 8)));
k [DV.v (SV.one (At.ints IntKind.u8 12 v1))]


noncomputable def E69 (N : Nat) : Env := { Θ := Th, Γ := Q69, K := K69, ν := N69, fuel := 0, lp := [] }


theorem f69_contract (N : Nat) (hΓ : CtxOk Try.prog Q69) : Contract Try.prog 69 { sig := S69, impl := fun _ ds k => call (E69 N) S69 9 B69 R69 ds k } :=
  call_contract (E := E69 N) thOk hΓ mixed ok69.look ok69.body ok69.n ok69.rv ok69.name rfl (by decide) (loopsOk_of (l := []) (by kernel_rfl) trivial)
theorem f69_raw_eq {R : Type} (N : Nat) (n : Int) (k : List DV → Option R) : call (E69 N) S69 9 B69 R69 [.v (.one (.int .u64 n))] k = f69_raw N n k := by kernel_rfl
end Go.Proofs.Ytiaddnmloonhgaa

/- What rime/seal.New comes to. MADE BY PROGRAM (wip/tools/mkfn.py, EngGen.lean). -/
namespace Go.Proofs.Ytiaddnmloonhgaa
open Go Go.Eng
set_option maxRecDepth 100000
set_option linter.unusedVariables false

noncomputable def f35_raw {R : Type} (N : Nat) (key : List Int) (n : Int) (k : List DV → Option R) : Option R :=
 k [DV.obj [At.ints IntKind.u8 32 key, At.int IntKind.u64 n]]


noncomputable def E35 (N : Nat) : Env := { Θ := Th, Γ := ([] : Ctx), K := K35, ν := N35, fuel := 0, lp := [] }


theorem f35_contract (N : Nat) (hΓ : CtxOk Try.prog ([] : Ctx)) : Contract Try.prog 35 { sig := S35, impl := fun _ ds k => call (E35 N) S35 9 B35 R35 ds k } :=
  call_contract (E := E35 N) thOk hΓ mixed ok35.look ok35.body ok35.n ok35.rv ok35.name rfl (by decide) (loopsOk_of (l := []) (by kernel_rfl) trivial)
theorem f35_raw_eq {R : Type} (N : Nat) (key : List Int) (n : Int) (k : List DV → Option R) : call (E35 N) S35 9 B35 R35 [.v (.one (.ints .u8 32 key)), .v (.one (.int .u64 n))] k = f35_raw N key n k := by kernel_rfl
end Go.Proofs.Ytiaddnmloonhgaa

/- What (*rime/seal.Sealer).Next comes to. MADE BY PROGRAM (wip/tools/mkfn.py, EngGen.lean). -/
namespace Go.Proofs.Ytiaddnmloonhgaa
open Go Go.Eng
set_option maxRecDepth 100000
set_option linter.unusedVariables false

noncomputable def f36_raw {R : Type} (N : Nat) (key : List Int) (n : Int) (k : List DV → Option R) : Option R :=
 k [DV.v (SV.one (At.int IntKind.u64 n)), DV.obj [At.ints IntKind.u8 32 key, At.int IntKind.u64 n]]


noncomputable def E36 (N : Nat) : Env := { Θ := Th, Γ := ([] : Ctx), K := K36, ν := N36, fuel := 0, lp := [] }


theorem f36_contract (N : Nat) (hΓ : CtxOk Try.prog ([] : Ctx)) : Contract Try.prog 36 { sig := S36, impl := fun _ ds k => call (E36 N) S36 9 B36 R36 ds k } :=
  call_contract (E := E36 N) thOk hΓ mixed ok36.look ok36.body ok36.n ok36.rv ok36.name rfl (by decide) (loopsOk_of (l := []) (by kernel_rfl) trivial)
theorem f36_raw_eq {R : Type} (N : Nat) (key : List Int) (n : Int) (k : List DV → Option R) : call (E36 N) S36 9 B36 R36 [.obj [.ints .u8 32 key, .int .u64 n]] k = f36_raw N key n k := by kernel_rfl
end Go.Proofs.Ytiaddnmloonhgaa

/- A sealer: New, Next; the nonce of a number. -/
namespace Go.Proofs.Ytiaddnmloonhgaa
open Go Go.Eng
set_option maxRecDepth 100000
def numL (n : Int) : List Int := [0, 0, 0, 0] ++ bytesL n 8
noncomputable def numS : Int → List Int := (stkD numL).1
theorem numS_def (n : Int) : numS n = numL n := congrFun (stkD numL).2 n
theorem f69_spec {R : Type} (n : Int) (k : List DV → Option R) : f69_raw 0 n k = k [.v (.one (.ints .u8 12 (numL n)))] := by kernel_rfl
noncomputable def I69 : (R : Type) → List DV → (List DV → Option R) → Option R := fun _ ds k => match ds with
  | [.v (.one (.int .u64 n))] => k [.v (.one (.ints .u8 12 (numS n)))]
  | _ => none
theorem c69 : Contract Try.prog 69 { sig := S69, impl := I69 } := by
  refine Contract.refine fun R ds k r h => ⟨_, f69_contract 0 Q69_ok, ?_⟩
  unfold I69 at h
  split at h
  · rw [numS_def] at h
    rw [f69_raw_eq, f69_spec]; exact h
  · cases h
def I35 : (R : Type) → List DV → (List DV → Option R) → Option R := fun _ ds k => match ds with
  | [.v (.one (.ints .u8 32 key)), .v (.one (.int .u64 n))] => k [.obj [.ints .u8 32 key, .int .u64 n]]
  | _ => none
theorem c35 : Contract Try.prog 35 { sig := S35, impl := I35 } := by
  refine Contract.refine fun R ds k r h => ⟨_, f35_contract 0 ctxOk_nil, ?_⟩
  unfold I35 at h
  split at h
  · rw [f35_raw_eq]; exact h
  · cases h
theorem f36_nil {R : Type} (N : Nat) (k : List DV → Option R) : call (E36 N) S36 9 B36 R36 [.nilp] k = k [.v (.one (.int .u64 0)), .nilp] := by kernel_rfl
def I36 : (R : Type) → List DV → (List DV → Option R) → Option R := fun _ ds k => match ds with
  | [.obj [.ints .u8 32 key, .int .u64 n]] => k [.v (.one (.int .u64 n)), .obj [.ints .u8 32 key, .int .u64 n]]
  | [.nilp] => k [.v (.one (.int .u64 0)), .nilp]
  | _ => none
theorem c36 : Contract Try.prog 36 { sig := S36, impl := I36 } := by
  refine Contract.refine fun R ds k r h => ⟨_, f36_contract 0 ctxOk_nil, ?_⟩
  unfold I36 at h
  split at h
  · rw [f36_raw_eq]; exact h
  · rw [f36_nil]; exact h
  · cases h
/-- what the program's sealing wants, as something into which no reckoning looks -/
noncomputable def sealS : List Int → List Int → List Int → List Int → List Int := (stkD sealL).1
theorem sealS_def (key nonce a b : List Int) : sealS key nonce a b = sealL key nonce a b := congrFun (congrFun (congrFun (congrFun (stkD sealL).2 key) nonce) a) b
noncomputable def J28 : (R : Type) → List DV → (List DV → Option R) → Option R := fun _ ds k => match ds with
  | [.v (.one (.ints .u8 32 key)), .v (.one (.ints .u8 12 nonce)), .lst (.one .u8) 1 a, .lst (.one .u8) 1 b] =>
    cond (okAB a b) (k [.lst (.one .u8) 1 (sealS key nonce a b)]) none
  | _ => none
theorem d28 : Contract Try.prog 28 { sig := S28, impl := J28 } := by
  refine Contract.refine fun R ds k r h => ⟨_, c28, ?_⟩
  unfold J28 at h
  split at h
  · rw [okAB_def, sealS_def] at h; exact h
  · cases h
noncomputable def Q37 : Ctx := (69, { sig := S69, impl := I69 }) :: (28, { sig := S28, impl := J28 }) :: []
theorem Q37_ok : CtxOk Try.prog Q37 := ctxOk_cons ok69 rfl c69 (ctxOk_cons ok28 rfl d28 ctxOk_nil)
end Go.Proofs.Ytiaddnmloonhgaa

/- What (*rime/seal.Sealer).Box comes to. MADE BY PROGRAM (wip/tools/mkfn.py, EngGen.lean). -/
namespace Go.Proofs.Ytiaddnmloonhgaa
open Go Go.Eng
set_option maxRecDepth 100000
set_option linter.unusedVariables false

noncomputable def f37_raw {R : Type} (N : Nat) (key : List Int) (n : Int) (a : List Int) (b : List Int) (k : List DV → Option R) : Option R :=
 bif n == 18446744073709551615 then k [DV.lst (RK.one IntKind.u8) 1 [], DV.v (SV.one (At.int IntKind.i64 122)), DV.obj [At.ints IntKind.u8 32 key, At.int IntKind.u64 n]]
else
 bif okAB a b then
 bif (Go.Eng.subN 12 Option.none).blt (Go.Eng.subN (hiNat Option.none 12) Option.none + rowLen 1 (sealS key (numS n) a b)) then
 bif ((2 * (Go.Eng.subN (hiNat Option.none 12) Option.none + rowLen 1 (sealS key (numS n) a b)) + 192) * 1).ble big48 && (Go.Eng.subN (hiNat Option.none 12) Option.none + rowLen 1 (sealS key (numS n) a b)).ble big48 then
 let v0 : List Int := Go.Eng.sub (numS n) (plusO Off.z 1 Option.none) (mulE (Go.Eng.subN (hiNat Option.none 12) Option.none) 1);
 let v1 : List Int := v0 ++ sealS key (numS n) a b;
 let v2 : Int := IntKind.u64.wrap (n + 1);
 k [DV.lst (RK.one IntKind.u8) 1 v1, DV.v (SV.one (At.int IntKind.i64 0)), DV.obj [At.ints IntKind.u8 32 key, At.int IntKind.u64 v2]]
 else Option.none
 else Option.none
 else Option.none


noncomputable def E37 (N : Nat) : Env := { Θ := Th, Γ := Q37, K := K37, ν := N37, fuel := 0, lp := [] }


theorem f37_contract (N : Nat) (hΓ : CtxOk Try.prog Q37) : Contract Try.prog 37 { sig := S37, impl := fun _ ds k => call (E37 N) S37 38 B37 R37 ds k } :=
  call_contract (E := E37 N) thOk hΓ mixed ok37.look ok37.body ok37.n ok37.rv ok37.name rfl (by decide) (loopsOk_of (l := []) (by kernel_rfl) trivial)
theorem f37_raw_eq {R : Type} (N : Nat) (key : List Int) (n : Int) (a : List Int) (b : List Int) (k : List DV → Option R) : call (E37 N) S37 38 B37 R37 [.obj [.ints .u8 32 key, .int .u64 n], .lst (.one .u8) 1 a, .lst (.one .u8) 1 b] k = f37_raw N key n a b k := by kernel_rfl
end Go.Proofs.Ytiaddnmloonhgaa

/- A sealer's box: the contract; the start of SealCounts. -/
namespace Go.Proofs.Ytiaddnmloonhgaa
open Go Go.Eng
set_option maxRecDepth 100000
noncomputable def boxL (key : List Int) (n : Int) (a b : List Int) : List Int := if n = 18446744073709551615 then [] else numL n ++ sealL key (numL n) a b
noncomputable def boxT : List Int → Int → List Int → List Int → List Int := (stkD boxL).1
theorem boxT_def (key : List Int) (n : Int) (a b : List Int) : boxT key n a b = boxL key n a b := congrFun (congrFun (congrFun (congrFun (stkD boxL).2 key) n) a) b
noncomputable def boxE : Int → Int := (stkD fun (n : Int) => if n = 18446744073709551615 then (122 : Int) else 0).1
theorem boxE_def (n : Int) : boxE n = if n = 18446744073709551615 then (122 : Int) else 0 := congrFun (stkD fun (n : Int) => if n = 18446744073709551615 then (122 : Int) else 0).2 n
noncomputable def boxN : Int → Int := (stkD fun (n : Int) => if n = 18446744073709551615 then n else IntKind.u64.wrap (n + 1)).1
theorem boxN_def (n : Int) : boxN n = if n = 18446744073709551615 then n else IntKind.u64.wrap (n + 1) := congrFun (stkD fun (n : Int) => if n = 18446744073709551615 then n else IntKind.u64.wrap (n + 1)).2 n
theorem numL_len (n : Int) : (numL n).length = 12 := by
  show (4 : Nat) + (bytesL n 8).length = 12
  rw [bytesL_length]
theorem f37_spec {R : Type} {key : List Int} {n : Int} {a b : List Int} (la : a.length ≤ 1073741824) (lb : b.length ≤ 1073741824) (k : List DV → Option R) :
    f37_raw 0 key n a b k = k [.lst (.one .u8) 1 (boxL key n a b), .v (.one (.int .i64 (if n = 18446744073709551615 then (122 : Int) else 0))), .obj [.ints .u8 32 key, .int .u64 (if n = 18446744073709551615 then n else IntKind.u64.wrap (n + 1))]] := by
  unfold f37_raw boxL
  by_cases h : n = 18446744073709551615
  · rw [if_pos h, if_pos h, if_pos h, show (n == 18446744073709551615) = true by simpa using h, cond_true]
  · rw [if_neg h, if_neg h, if_neg h, show (n == 18446744073709551615) = false by simpa using h, cond_false]
    have hs := sealL_length key (numL n) a b
    have hl : rowLen 1 (sealS key (numS n) a b) = b.length + 16 := by rw [sealS_def, numS_def]; exact hs
    have hsub : Go.Eng.sub (numS n) (plusO Off.z 1 Option.none) (mulE (Go.Eng.subN (hiNat Option.none 12) Option.none) 1) = numL n := by
      rw [numS_def]
      show (numL n).take 12 = numL n
      exact List.take_of_length_le (by rw [numL_len]; omega)
    rw [okAB_def, show Nat.ble a.length lim5 = true from Nat.ble_eq_true_of_le (by unfold lim5; omega), show Nat.ble b.length lim5 = true from Nat.ble_eq_true_of_le (by unfold lim5; omega), Bool.and_self, cond_true, hl, hsub, sealS_def, numS_def]
    rw [show (Go.Eng.subN 12 Option.none).blt (Go.Eng.subN (hiNat Option.none 12) Option.none + (b.length + 16)) = true from Nat.ble_eq_true_of_le (by show 12 + 1 ≤ 12 + (b.length + 16); omega), cond_true]
    rw [show ((2 * (Go.Eng.subN (hiNat Option.none 12) Option.none + (b.length + 16)) + 192) * 1).ble big48 = true from Nat.ble_eq_true_of_le (by show (2 * (12 + (b.length + 16)) + 192) * 1 ≤ 281474976710656; omega), show (Go.Eng.subN (hiNat Option.none 12) Option.none + (b.length + 16)).ble big48 = true from Nat.ble_eq_true_of_le (by show 12 + (b.length + 16) ≤ 281474976710656; omega), Bool.and_self, cond_true]
theorem f37_nil {R : Type} (N : Nat) (a b : List Int) (k : List DV → Option R) : call (E37 N) S37 38 B37 R37 [.nilp, .lst (.one .u8) 1 a, .lst (.one .u8) 1 b] k = k [.lst (.one .u8) 1 [], .v (.one (.int .i64 2)), .nilp] := by kernel_rfl
noncomputable def I37 : (R : Type) → List DV → (List DV → Option R) → Option R := fun _ ds k => match ds with
  | [.obj [.ints .u8 32 key, .int .u64 n], .lst (.one .u8) 1 a, .lst (.one .u8) 1 b] => cond (okUn a b) (k [.lst (.one .u8) 1 (boxT key n a b), .v (.one (.int .i64 (boxE n))), .obj [.ints .u8 32 key, .int .u64 (boxN n)]]) none
  | [.nilp, .lst (.one .u8) 1 a, .lst (.one .u8) 1 b] => k [.lst (.one .u8) 1 [], .v (.one (.int .i64 2)), .nilp]
  | _ => none
theorem c37 : Contract Try.prog 37 { sig := S37, impl := I37 } := by
  refine Contract.refine fun R ds k r h => ⟨_, f37_contract 0 Q37_ok, ?_⟩
  unfold I37 at h
  split at h
  · rename_i key n a b
    rw [okUn_def] at h
    cases hc : (Nat.ble a.length limT && Nat.ble b.length limT) with
    | true =>
      rw [hc, boxT_def, boxE_def, boxN_def] at h
      rw [Bool.and_eq_true] at hc
      rw [f37_raw_eq, f37_spec (Nat.le_of_ble_eq_true hc.1) (Nat.le_of_ble_eq_true hc.2)]; exact h
    | false => rw [hc] at h; cases h
  · rw [f37_nil]; exact h
  · cases h
noncomputable def Q130 : Ctx := (35, { sig := S35, impl := I35 }) :: (36, { sig := S36, impl := I36 }) :: (37, { sig := S37, impl := I37 }) :: QU0
theorem Q130_ok : CtxOk Try.prog Q130 := ctxOk_cons ok35 rfl c35 (ctxOk_cons ok36 rfl c36 (ctxOk_cons ok37 rfl c37 QU0_ok))
def start13s (n : Nat) (key : List Int) (next : Int) (op : List Int) (texts : List (List Int)) : AS :=
  { n := n, lo := 0, tmps := [(0, .s (.one (.ints .u8 32 key))), (1, .s (.one (.int .u64 next))), (2, .s (.one (.own 2))), (3, .s (.one (.own 3)))], items := [(2, .view (.one .u8) 1 op), (3, .dview (.one .u8) 1 texts)] }
end Go.Proofs.Ytiaddnmloonhgaa

/- What rime/rimelaw12.SealCounts comes to. MADE BY PROGRAM (wip/tools/mkfn.py, EngGen.lean). -/
namespace Go.Proofs.Ytiaddnmloonhgaa
open Go Go.Eng
set_option maxRecDepth 100000
set_option linter.unusedVariables false

def f13_0_sh : Shp := { n := 92, lo := 0, slots := [(2, .one (.fix (At.own 2))), (3, .one (.fix (At.own 3))), (4, .one (.fix (At.ptr 4 0 Off.z 32))), (9, .one (.fix (At.ptr 21 0 Off.z 33))), (10, .one (.int IntKind.i64))], items := [(2, .view (RK.one IntKind.u8) 1), (3, .dview (RK.one IntKind.u8) 1), (4, .obj [.ints IntKind.u8 32]), (21, .obj [.ints IntKind.u8 32, .int IntKind.u64])] }
def f13_0_ex1 : Shp := { n := 92, lo := 0, slots := [(8, .one (.bool)), (56, .one (.bool)), (43, .one (.bool)), (13, .one (.int IntKind.i64)), (12, .one (.fix (At.own 39))), (11, .one (.int IntKind.u64)), (27, .one (.bool)), (2, .one (.fix (At.own 2))), (3, .one (.fix (At.own 3))), (4, .one (.fix (At.ptr 4 0 Off.z 32))), (9, .one (.fix (At.ptr 21 0 Off.z 33))), (10, .one (.int IntKind.i64))], items := [(39, .row (RK.one IntKind.u8) 1), (21, .obj [.ints IntKind.u8 32, .int IntKind.u64]), (38, .view (RK.one IntKind.u8) 1), (2, .view (RK.one IntKind.u8) 1), (3, .dview (RK.one IntKind.u8) 1), (4, .obj [.ints IntKind.u8 32])] }
def f13_0_ex2 : Shp := { n := 92, lo := 0, slots := [(8, .one (.bool)), (56, .one (.bool)), (43, .one (.bool)), (13, .one (.int IntKind.i64)), (12, .one (.fix (At.own 39))), (11, .one (.int IntKind.u64)), (27, .one (.bool)), (2, .one (.fix (At.own 2))), (3, .one (.fix (At.own 3))), (4, .one (.fix (At.ptr 4 0 Off.z 32))), (9, .one (.fix (At.ptr 21 0 Off.z 33))), (10, .one (.int IntKind.i64))], items := [(21, .obj [.ints IntKind.u8 32, .int IntKind.u64]), (39, .row (RK.one IntKind.u8) 1), (38, .view (RK.one IntKind.u8) 1), (2, .view (RK.one IntKind.u8) 1), (3, .dview (RK.one IntKind.u8) 1), (4, .obj [.ints IntKind.u8 32])] }
def f13_0_ex3 : Shp := { n := 92, lo := 0, slots := [(8, .one (.bool)), (91, .one (.bool)), (16, .one (.int IntKind.i64)), (15, .one (.int IntKind.u64)), (14, .one (.fix (At.own 61))), (43, .one (.bool)), (13, .one (.int IntKind.i64)), (12, .one (.fix (At.own 39))), (11, .one (.int IntKind.u64)), (27, .one (.bool)), (2, .one (.fix (At.own 2))), (3, .one (.fix (At.own 3))), (4, .one (.fix (At.ptr 4 0 Off.z 32))), (9, .one (.fix (At.ptr 21 0 Off.z 33))), (10, .one (.int IntKind.i64))], items := [(61, .row (RK.one IntKind.u8) 1), (39, .row (RK.one IntKind.u8) 1), (21, .obj [.ints IntKind.u8 32, .int IntKind.u64]), (38, .view (RK.one IntKind.u8) 1), (2, .view (RK.one IntKind.u8) 1), (3, .dview (RK.one IntKind.u8) 1), (4, .obj [.ints IntKind.u8 32])] }
def f13_0_ex4 : Shp := { n := 92, lo := 0, slots := [(8, .one (.bool)), (91, .one (.bool)), (16, .one (.int IntKind.i64)), (15, .one (.int IntKind.u64)), (14, .one (.fix (At.own 61))), (43, .one (.bool)), (13, .one (.int IntKind.i64)), (12, .one (.fix (At.own 39))), (11, .one (.int IntKind.u64)), (27, .one (.bool)), (2, .one (.fix (At.own 2))), (3, .one (.fix (At.own 3))), (4, .one (.fix (At.ptr 4 0 Off.z 32))), (9, .one (.fix (At.ptr 21 0 Off.z 33))), (10, .one (.int IntKind.i64))], items := [(21, .obj [.ints IntKind.u8 32, .int IntKind.u64]), (61, .row (RK.one IntKind.u8) 1), (39, .row (RK.one IntKind.u8) 1), (38, .view (RK.one IntKind.u8) 1), (2, .view (RK.one IntKind.u8) 1), (3, .dview (RK.one IntKind.u8) 1), (4, .obj [.ints IntKind.u8 32])] }
def f13_0_ex5 : Shp := { n := 92, lo := 0, slots := [(8, .one (.bool)), (91, .one (.bool)), (16, .one (.int IntKind.i64)), (15, .one (.int IntKind.u64)), (14, .one (.fix (At.own 61))), (43, .one (.bool)), (13, .one (.int IntKind.i64)), (12, .one (.fix (At.own 39))), (11, .one (.int IntKind.u64)), (27, .one (.bool)), (2, .one (.fix (At.own 2))), (3, .one (.fix (At.own 3))), (4, .one (.fix (At.ptr 4 0 Off.z 32))), (9, .one (.fix (At.ptr 21 0 Off.z 33))), (10, .one (.int IntKind.i64))], items := [(88, .view (RK.one IntKind.u8) 1), (21, .obj [.ints IntKind.u8 32, .int IntKind.u64]), (61, .row (RK.one IntKind.u8) 1), (39, .row (RK.one IntKind.u8) 1), (38, .view (RK.one IntKind.u8) 1), (2, .view (RK.one IntKind.u8) 1), (3, .dview (RK.one IntKind.u8) 1), (4, .obj [.ints IntKind.u8 32])] }
def f13_0_ex6 : Shp := { n := 92, lo := 0, slots := [(27, .one (.bool)), (2, .one (.fix (At.own 2))), (3, .one (.fix (At.own 3))), (4, .one (.fix (At.ptr 4 0 Off.z 32))), (9, .one (.fix (At.ptr 21 0 Off.z 33))), (10, .one (.int IntKind.i64))], items := [(2, .view (RK.one IntKind.u8) 1), (3, .dview (RK.one IntKind.u8) 1), (4, .obj [.ints IntKind.u8 32]), (21, .obj [.ints IntKind.u8 32, .int IntKind.u64])] }
noncomputable def f13_0_st {R : Type} (N : Nat) (self : Int → List Int → List (List Int) → List Int → List Int → Int → Option R) (k1 : Bool → Bool → Bool → Int → Int → Bool → Int → List Int → List Int → Int → List Int → List Int → List (List Int) → List Int → Option R) (k2 : Bool → Bool → Bool → Int → Int → Bool → Int → List Int → Int → List Int → List Int → List Int → List (List Int) → List Int → Option R) (k3 : Bool → Bool → Int → Int → Bool → Int → Int → Bool → Int → List Int → List Int → List Int → Int → List Int → List Int → List (List Int) → List Int → Option R) (k4 : Bool → Bool → Int → Int → Bool → Int → Int → Bool → Int → List Int → Int → List Int → List Int → List Int → List Int → List (List Int) → List Int → Option R) (k5 : Bool → Bool → Int → Int → Bool → Int → Int → Bool → Int → List Int → List Int → Int → List Int → List Int → List Int → List Int → List (List Int) → List Int → Option R) (k6 : Bool → Int → List Int → List (List Int) → List Int → List Int → Int → Option R) (x1 : Int) (x2 : List Int) (x3 : List (List Int)) (x4 : List Int) (x5 : List Int) (x6 : Int) : Option R :=
 bif Decidable.decide (x1 < nI x3.length) then
 bif Decidable.decide (0 ≤ x1) && Decidable.decide (x1 < nI x3.length) then
 bif x1.toNat.blt x3.length && !Nat.beq 3 38 then
 bif okUn x2 (x3.getD x1.toNat []) then
 bif x6 == 18446744073709551615 then
 bif boxE x6 != 122 then k1 Bool.false Bool.true (x6 == 18446744073709551615) (boxE x6) x6 (Decidable.decide (x1 < nI x3.length)) x1 (boxT x5 x6 x2 (x3.getD x1.toNat [])) x5 (boxN x6) (x3.getD x1.toNat []) x2 x3 x4
 else
 let v0 : Bool := bif Bool.false then Bool.true else nI (rowLen 1 (boxT x5 x6 x2 (x3.getD x1.toNat []))) != 0;
 bif v0 then k1 Bool.false Bool.true (x6 == 18446744073709551615) (boxE x6) x6 (Decidable.decide (x1 < nI x3.length)) x1 (boxT x5 x6 x2 (x3.getD x1.toNat [])) x5 (boxN x6) (x3.getD x1.toNat []) x2 x3 x4
 else
 let v1 : Bool := bif Bool.false then Bool.true else boxN x6 != x6;
 bif v1 then k2 Bool.false v1 (x6 == 18446744073709551615) (boxE x6) x6 (Decidable.decide (x1 < nI x3.length)) x1 x5 (boxN x6) (boxT x5 x6 x2 (x3.getD x1.toNat [])) (x3.getD x1.toNat []) x2 x3 x4
 else
 let v2 : Int := IntKind.i64.wrap (x1 + 1);
 self v2 x2 x3 x4 x5 (boxN x6)
 else
 bif okUn x2 (boxT x5 x6 x2 (x3.getD x1.toNat [])) then
 bif boxE x6 != 0 then k3 Bool.false Bool.true (unE x4 x2 (boxT x5 x6 x2 (x3.getD x1.toNat []))) (unN x4 x2 (boxT x5 x6 x2 (x3.getD x1.toNat []))) (x6 == 18446744073709551615) (boxE x6) x6 (Decidable.decide (x1 < nI x3.length)) x1 (unT x4 x2 (boxT x5 x6 x2 (x3.getD x1.toNat []))) (boxT x5 x6 x2 (x3.getD x1.toNat [])) x5 (boxN x6) (x3.getD x1.toNat []) x2 x3 x4
 else
 let v3 : Bool := bif Bool.false then Bool.true else unE x4 x2 (boxT x5 x6 x2 (x3.getD x1.toNat [])) != 0;
 bif v3 then k3 Bool.false Bool.true (unE x4 x2 (boxT x5 x6 x2 (x3.getD x1.toNat []))) (unN x4 x2 (boxT x5 x6 x2 (x3.getD x1.toNat []))) (x6 == 18446744073709551615) (boxE x6) x6 (Decidable.decide (x1 < nI x3.length)) x1 (unT x4 x2 (boxT x5 x6 x2 (x3.getD x1.toNat []))) (boxT x5 x6 x2 (x3.getD x1.toNat [])) x5 (boxN x6) (x3.getD x1.toNat []) x2 x3 x4
 else
 let v4 : Bool := bif Bool.false then Bool.true else unN x4 x2 (boxT x5 x6 x2 (x3.getD x1.toNat [])) != x6;
 bif v4 then k3 Bool.false Bool.true (unE x4 x2 (boxT x5 x6 x2 (x3.getD x1.toNat []))) (unN x4 x2 (boxT x5 x6 x2 (x3.getD x1.toNat []))) (x6 == 18446744073709551615) (boxE x6) x6 (Decidable.decide (x1 < nI x3.length)) x1 (unT x4 x2 (boxT x5 x6 x2 (x3.getD x1.toNat []))) (boxT x5 x6 x2 (x3.getD x1.toNat [])) x5 (boxN x6) (x3.getD x1.toNat []) x2 x3 x4
 else
 let v5 : Int := IntKind.u64.wrap (x6 + 1);
 let v6 : Bool := bif Bool.false then Bool.true else boxN x6 != v5;
 bif v6 then k4 Bool.false Bool.true (unE x4 x2 (boxT x5 x6 x2 (x3.getD x1.toNat []))) (unN x4 x2 (boxT x5 x6 x2 (x3.getD x1.toNat []))) (x6 == 18446744073709551615) (boxE x6) x6 (Decidable.decide (x1 < nI x3.length)) x1 x5 (boxN x6) (unT x4 x2 (boxT x5 x6 x2 (x3.getD x1.toNat []))) (boxT x5 x6 x2 (x3.getD x1.toNat [])) (x3.getD x1.toNat []) x2 x3 x4
 else
 bif Decidable.decide (0 ≤ x1) && Decidable.decide (x1 < nI x3.length) then
 bif x1.toNat.blt x3.length && !Nat.beq 3 88 then
 bif (unT x4 x2 (boxT x5 x6 x2 (x3.getD x1.toNat []))).length.ble lim then
 let v7 : Bool := bif Bool.false then Bool.true else !Decidable.decide (unT x4 x2 (boxT x5 x6 x2 (x3.getD x1.toNat [])) = x3.getD x1.toNat []);
 bif v7 then k5 Bool.false v7 (unE x4 x2 (boxT x5 x6 x2 (x3.getD x1.toNat []))) (unN x4 x2 (boxT x5 x6 x2 (x3.getD x1.toNat []))) (x6 == 18446744073709551615) (boxE x6) x6 (Decidable.decide (x1 < nI x3.length)) x1 (x3.getD x1.toNat []) x5 (boxN x6) (unT x4 x2 (boxT x5 x6 x2 (x3.getD x1.toNat []))) (boxT x5 x6 x2 (x3.getD x1.toNat [])) (x3.getD x1.toNat []) x2 x3 x4
 else
 let v8 : Int := IntKind.i64.wrap (x1 + 1);
 self v8 x2 x3 x4 x5 (boxN x6)
 else Option.none
 else Option.none
 else Option.none
 else Option.none
 else Option.none
 else Option.none
 else Option.none
else k6 (Decidable.decide (x1 < nI x3.length)) x1 x2 x3 x4 x5 x6
noncomputable def f13_0_lp {R : Type} (N : Nat) (k1 : Bool → Bool → Bool → Int → Int → Bool → Int → List Int → List Int → Int → List Int → List Int → List (List Int) → List Int → Option R) (k2 : Bool → Bool → Bool → Int → Int → Bool → Int → List Int → Int → List Int → List Int → List Int → List (List Int) → List Int → Option R) (k3 : Bool → Bool → Int → Int → Bool → Int → Int → Bool → Int → List Int → List Int → List Int → Int → List Int → List Int → List (List Int) → List Int → Option R) (k4 : Bool → Bool → Int → Int → Bool → Int → Int → Bool → Int → List Int → Int → List Int → List Int → List Int → List Int → List (List Int) → List Int → Option R) (k5 : Bool → Bool → Int → Int → Bool → Int → Int → Bool → Int → List Int → List Int → Int → List Int → List Int → List Int → List Int → List (List Int) → List Int → Option R) (k6 : Bool → Int → List Int → List (List Int) → List Int → List Int → Int → Option R) : Nat → Int → List Int → List (List Int) → List Int → List Int → Int → Option R
 | 0, _, _, _, _, _, _ => none
 | n + 1, x1, x2, x3, x4, x5, x6 => f13_0_st N (f13_0_lp N k1 k2 k3 k4 k5 k6 n) k1 k2 k3 k4 k5 k6 x1 x2 x3 x4 x5 x6
noncomputable def f13_0_F (N : Nat) : (R : Type) → List Leaf → (X → AS → Option R) → Option R := fun _ ls K => match ls with
 | [.i x1, .l x2, .ll x3, .l x4, .l x5, .i x6] => f13_0_lp N (fun y1 y2 y3 y4 y5 y6 y7 y8 y9 y10 y11 y12 y13 y14 => K (X.ret) (fill f13_0_ex1 [.b y1, .b y2, .b y3, .i y4, .i y5, .b y6, .i y7, .l y8, .l y9, .i y10, .l y11, .l y12, .ll y13, .l y14])) (fun y1 y2 y3 y4 y5 y6 y7 y8 y9 y10 y11 y12 y13 y14 => K (X.ret) (fill f13_0_ex2 [.b y1, .b y2, .b y3, .i y4, .i y5, .b y6, .i y7, .l y8, .i y9, .l y10, .l y11, .l y12, .ll y13, .l y14])) (fun y1 y2 y3 y4 y5 y6 y7 y8 y9 y10 y11 y12 y13 y14 y15 y16 y17 => K (X.ret) (fill f13_0_ex3 [.b y1, .b y2, .i y3, .i y4, .b y5, .i y6, .i y7, .b y8, .i y9, .l y10, .l y11, .l y12, .i y13, .l y14, .l y15, .ll y16, .l y17])) (fun y1 y2 y3 y4 y5 y6 y7 y8 y9 y10 y11 y12 y13 y14 y15 y16 y17 => K (X.ret) (fill f13_0_ex4 [.b y1, .b y2, .i y3, .i y4, .b y5, .i y6, .i y7, .b y8, .i y9, .l y10, .i y11, .l y12, .l y13, .l y14, .l y15, .ll y16, .l y17])) (fun y1 y2 y3 y4 y5 y6 y7 y8 y9 y10 y11 y12 y13 y14 y15 y16 y17 y18 => K (X.ret) (fill f13_0_ex5 [.b y1, .b y2, .i y3, .i y4, .b y5, .i y6, .i y7, .b y8, .i y9, .l y10, .l y11, .i y12, .l y13, .l y14, .l y15, .l y16, .ll y17, .l y18])) (fun y1 y2 y3 y4 y5 y6 y7 => K (X.normal) (fill f13_0_ex6 [.b y1, .i y2, .l y3, .ll y4, .l y5, .l y6, .i y7])) N x1 x2 x3 x4 x5 x6
 | _ => none
noncomputable def f13_raw {R : Type} (N : Nat) (key : List Int) (next : Int) (op : List Int) (texts : List (List Int)) (k : List DV → Option R) : Option R :=
 f13_0_lp N (fun w0_1 w0_2 w0_3 w0_4 w0_5 w0_6 w0_7 w0_8 w0_9 w0_10 w0_11 w0_12 w0_13 w0_14 => k [DV.v (SV.one (At.bool w0_1))]) (fun w1_1 w1_2 w1_3 w1_4 w1_5 w1_6 w1_7 w1_8 w1_9 w1_10 w1_11 w1_12 w1_13 w1_14 => k [DV.v (SV.one (At.bool w1_1))]) (fun w2_1 w2_2 w2_3 w2_4 w2_5 w2_6 w2_7 w2_8 w2_9 w2_10 w2_11 w2_12 w2_13 w2_14 w2_15 w2_16 w2_17 => k [DV.v (SV.one (At.bool w2_1))]) (fun w3_1 w3_2 w3_3 w3_4 w3_5 w3_6 w3_7 w3_8 w3_9 w3_10 w3_11 w3_12 w3_13 w3_14 w3_15 w3_16 w3_17 => k [DV.v (SV.one (At.bool w3_1))]) (fun w4_1 w4_2 w4_3 w4_4 w4_5 w4_6 w4_7 w4_8 w4_9 w4_10 w4_11 w4_12 w4_13 w4_14 w4_15 w4_16 w4_17 w4_18 => k [DV.v (SV.one (At.bool w4_1))]) (fun w5_1 w5_2 w5_3 w5_4 w5_5 w5_6 w5_7 => k [DV.v (SV.one (At.bool Bool.true))]) N 0 op texts key key next


noncomputable def E13 (N : Nat) : Env := { Θ := Th, Γ := Q130, K := K13, ν := N13, fuel := 0, lp := [(0, mkL N13_0 f13_0_sh (f13_0_F N))] }

theorem f13_0_st_eq {R : Type} (N : Nat) (K : X → AS → Option R) (n : Nat) (x1 : Int) (x2 : List Int) (x3 : List (List Int)) (x4 : List Int) (x5 : List Int) (x6 : Int) : roundsOf (E13 N) N13_0 0 B13_0 K (n + 1) (fill f13_0_sh [.i x1, .l x2, .ll x3, .l x4, .l x5, .i x6]) = f13_0_st N (fun x1 x2 x3 x4 x5 x6 => roundsOf (E13 N) N13_0 0 B13_0 K n (fill f13_0_sh [.i x1, .l x2, .ll x3, .l x4, .l x5, .i x6])) (fun y1 y2 y3 y4 y5 y6 y7 y8 y9 y10 y11 y12 y13 y14 => K (X.ret) (fill f13_0_ex1 [.b y1, .b y2, .b y3, .i y4, .i y5, .b y6, .i y7, .l y8, .l y9, .i y10, .l y11, .l y12, .ll y13, .l y14])) (fun y1 y2 y3 y4 y5 y6 y7 y8 y9 y10 y11 y12 y13 y14 => K (X.ret) (fill f13_0_ex2 [.b y1, .b y2, .b y3, .i y4, .i y5, .b y6, .i y7, .l y8, .i y9, .l y10, .l y11, .l y12, .ll y13, .l y14])) (fun y1 y2 y3 y4 y5 y6 y7 y8 y9 y10 y11 y12 y13 y14 y15 y16 y17 => K (X.ret) (fill f13_0_ex3 [.b y1, .b y2, .i y3, .i y4, .b y5, .i y6, .i y7, .b y8, .i y9, .l y10, .l y11, .l y12, .i y13, .l y14, .l y15, .ll y16, .l y17])) (fun y1 y2 y3 y4 y5 y6 y7 y8 y9 y10 y11 y12 y13 y14 y15 y16 y17 => K (X.ret) (fill f13_0_ex4 [.b y1, .b y2, .i y3, .i y4, .b y5, .i y6, .i y7, .b y8, .i y9, .l y10, .i y11, .l y12, .l y13, .l y14, .l y15, .ll y16, .l y17])) (fun y1 y2 y3 y4 y5 y6 y7 y8 y9 y10 y11 y12 y13 y14 y15 y16 y17 y18 => K (X.ret) (fill f13_0_ex5 [.b y1, .b y2, .i y3, .i y4, .b y5, .i y6, .i y7, .b y8, .i y9, .l y10, .l y11, .i y12, .l y13, .l y14, .l y15, .l y16, .ll y17, .l y18])) (fun y1 y2 y3 y4 y5 y6 y7 => K (X.normal) (fill f13_0_ex6 [.b y1, .i y2, .l y3, .ll y4, .l y5, .l y6, .i y7])) x1 x2 x3 x4 x5 x6 := by kernel_rfl
theorem f13_0_lp_eq {R : Type} (N : Nat) (K : X → AS → Option R) : ∀ (n : Nat) (x1 : Int) (x2 : List Int) (x3 : List (List Int)) (x4 : List Int) (x5 : List Int) (x6 : Int), roundsOf (E13 N) N13_0 0 B13_0 K n (fill f13_0_sh [.i x1, .l x2, .ll x3, .l x4, .l x5, .i x6]) = f13_0_lp N (fun y1 y2 y3 y4 y5 y6 y7 y8 y9 y10 y11 y12 y13 y14 => K (X.ret) (fill f13_0_ex1 [.b y1, .b y2, .b y3, .i y4, .i y5, .b y6, .i y7, .l y8, .l y9, .i y10, .l y11, .l y12, .ll y13, .l y14])) (fun y1 y2 y3 y4 y5 y6 y7 y8 y9 y10 y11 y12 y13 y14 => K (X.ret) (fill f13_0_ex2 [.b y1, .b y2, .b y3, .i y4, .i y5, .b y6, .i y7, .l y8, .i y9, .l y10, .l y11, .l y12, .ll y13, .l y14])) (fun y1 y2 y3 y4 y5 y6 y7 y8 y9 y10 y11 y12 y13 y14 y15 y16 y17 => K (X.ret) (fill f13_0_ex3 [.b y1, .b y2, .i y3, .i y4, .b y5, .i y6, .i y7, .b y8, .i y9, .l y10, .l y11, .l y12, .i y13, .l y14, .l y15, .ll y16, .l y17])) (fun y1 y2 y3 y4 y5 y6 y7 y8 y9 y10 y11 y12 y13 y14 y15 y16 y17 => K (X.ret) (fill f13_0_ex4 [.b y1, .b y2, .i y3, .i y4, .b y5, .i y6, .i y7, .b y8, .i y9, .l y10, .i y11, .l y12, .l y13, .l y14, .l y15, .ll y16, .l y17])) (fun y1 y2 y3 y4 y5 y6 y7 y8 y9 y10 y11 y12 y13 y14 y15 y16 y17 y18 => K (X.ret) (fill f13_0_ex5 [.b y1, .b y2, .i y3, .i y4, .b y5, .i y6, .i y7, .b y8, .i y9, .l y10, .l y11, .i y12, .l y13, .l y14, .l y15, .l y16, .ll y17, .l y18])) (fun y1 y2 y3 y4 y5 y6 y7 => K (X.normal) (fill f13_0_ex6 [.b y1, .i y2, .l y3, .ll y4, .l y5, .l y6, .i y7])) n x1 x2 x3 x4 x5 x6
  | 0, _, _, _, _, _, _ => rfl
  | n + 1, x1, x2, x3, x4, x5, x6 => by
    rw [f13_0_st_eq, f13_0_lp, show (fun x1 x2 x3 x4 x5 x6 => roundsOf (E13 N) N13_0 0 B13_0 K n (fill f13_0_sh [.i x1, .l x2, .ll x3, .l x4, .l x5, .i x6])) = f13_0_lp N (fun y1 y2 y3 y4 y5 y6 y7 y8 y9 y10 y11 y12 y13 y14 => K (X.ret) (fill f13_0_ex1 [.b y1, .b y2, .b y3, .i y4, .i y5, .b y6, .i y7, .l y8, .l y9, .i y10, .l y11, .l y12, .ll y13, .l y14])) (fun y1 y2 y3 y4 y5 y6 y7 y8 y9 y10 y11 y12 y13 y14 => K (X.ret) (fill f13_0_ex2 [.b y1, .b y2, .b y3, .i y4, .i y5, .b y6, .i y7, .l y8, .i y9, .l y10, .l y11, .l y12, .ll y13, .l y14])) (fun y1 y2 y3 y4 y5 y6 y7 y8 y9 y10 y11 y12 y13 y14 y15 y16 y17 => K (X.ret) (fill f13_0_ex3 [.b y1, .b y2, .i y3, .i y4, .b y5, .i y6, .i y7, .b y8, .i y9, .l y10, .l y11, .l y12, .i y13, .l y14, .l y15, .ll y16, .l y17])) (fun y1 y2 y3 y4 y5 y6 y7 y8 y9 y10 y11 y12 y13 y14 y15 y16 y17 => K (X.ret) (fill f13_0_ex4 [.b y1, .b y2, .i y3, .i y4, .b y5, .i y6, .i y7, .b y8, .i y9, .l y10, .i y11, .l y12, .l y13, .l y14, .l y15, .ll y16, .l y17])) (fun y1 y2 y3 y4 y5 y6 y7 y8 y9 y10 y11 y12 y13 y14 y15 y16 y17 y18 => K (X.ret) (fill f13_0_ex5 [.b y1, .b y2, .i y3, .i y4, .b y5, .i y6, .i y7, .b y8, .i y9, .l y10, .l y11, .i y12, .l y13, .l y14, .l y15, .l y16, .ll y17, .l y18])) (fun y1 y2 y3 y4 y5 y6 y7 => K (X.normal) (fill f13_0_ex6 [.b y1, .i y2, .l y3, .ll y4, .l y5, .l y6, .i y7])) n from by funext x1 x2 x3 x4 x5 x6; exact f13_0_lp_eq N K n x1 x2 x3 x4 x5 x6]
theorem f13_0_ok (N : Nat) (hlp : LoopsOk Try.prog (E13 N).lp B13_0) (hΓ : CtxOk Try.prog (E13 N).Γ) : LoopOk Try.prog (mkL N13_0 f13_0_sh (f13_0_F N)) 0 B13_0 := by
  refine loopOk_of (E := E13 N) thOk hΓ mixed hlp ?_
  intro R ls K r h
  unfold f13_0_F at h
  split at h
  · exact ⟨N, by rw [f13_0_lp_eq]; exact h⟩
  · cases h

theorem lok13_0 (N : Nat) (hΓ : CtxOk Try.prog Q130) : LoopOk Try.prog (mkL N13_0 f13_0_sh (f13_0_F N)) 0 B13_0 := f13_0_ok N (loopsOk_of (l := []) (by kernel_rfl) trivial) hΓ
theorem f13_loops (N : Nat) (hΓ : CtxOk Try.prog Q130) : LoopsOk Try.prog (E13 N).lp B13 := loopsOk_of (l := [(0, B13_0)]) (by kernel_rfl) (allOk_cons (L := mkL N13_0 f13_0_sh (f13_0_F N)) rfl (lok13_0 N hΓ) trivial)
theorem f13_raw_eq {R : Type} (N : Nat) (key : List Int) (next : Int) (op : List Int) (texts : List (List Int)) (k : List DV → Option R) : exec (E13 N) B13 (start13s 92 key next op texts) (retK Th { ps := [], rs := [.val] } [] R13 k) = f13_raw N key next op texts k := by kernel_rfl
end Go.Proofs.Ytiaddnmloonhgaa

