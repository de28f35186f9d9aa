/- FieldInverses: for any list of field elements whose data stay within 1,048,576: InvertAll answers as the document, and the list that was handed in stands as it stood. -/
import Derived.Test.YtcgolglcjfknpaaFieldInversesUptoSaidT4
import Derived.WalkKit
import Derived.ProofKit
import Derived.JoinedCond
set_option linter.unusedVariables false
set_option linter.unusedSimpArgs false

/- the document's root of a ratio. -/
namespace Go.Proofs.Ytcgolglcjfknpaa
open Go Go.Eng
set_option maxRecDepth 100000
set_option linter.unusedSimpArgs false

theorem f36_num {R : Type} (x : List Int) (y : List Int) (hx : (okB x) = true) (hy : (okB y) = true) (k : List DV → Option R) : f36_raw 0 x y k = k [.v (.one (.ints .u8 32 (feN (ratN (vB x) (vB y))))), .v (.one (.bool (ratB (vB x) (vB y))))] := by
  unfold f36_raw
  simp only [hx, hy, okD_refN, okB_feN, vB_feN (pw_lt _ _), vB_feN (mulN_lt _ _), vB_feN i_lt, Bool.and_self, cond_true]
  rw [ref_zero, ref_dec (vB_lt x) (by decide), ref_dec (vB_lt y) (by decide), zero_bytes]
  by_cases h0 : vB x = 0
  · rw [decide_eq_true h0, cond_true, h0]
    have hb : ratB 0 (vB y) = true := by
      have hc : chN 0 (vB y) = 0 := by rw [chN_eq, zero_mulN]
      rw [ratB_def, hc, decide_eq_true rfl, Bool.true_or]
    have hn : ratN 0 (vB y) = 0 := by
      have hr : rtN 0 (vB y) = 0 := by unfold rtN; rw [zero_mulN, zero_mulN]
      have hc : chN 0 (vB y) = 0 := by rw [chN_eq, zero_mulN]
      rw [ratN_def]; unfold ratR
      rw [hc, decide_eq_true rfl, cond_true, hr, absN_def]; decide
    rw [hb, hn]
  · rw [decide_eq_false h0, cond_false]
    by_cases h1 : vB y = 0
    · rw [decide_eq_true h1, cond_true, h1, ratN_v0, ratB_v0 (vB_lt x), decide_eq_false h0]
    · rw [decide_eq_false h1, cond_false]
      show (bif legI (refQ (vB x) (vB y)) == 1 then k [.v (.one (.ints .u8 32 (feN (rootS (refQ (vB x) (vB y)))))), .v (.one (.bool true))] else k [.v (.one (.ints .u8 32 (feN (rootS (mulN (refQ (vB x) (vB y)) iN))))), .v (.one (.bool false))]) = _
      rcases ref_rat (vB_lt x) (vB_lt y) h0 h1 with ⟨h2, h3, h4⟩ | ⟨h2, h3, h4⟩
      · rw [h2, h3, h4]; rfl
      · rw [show (legI (refQ (vB x) (vB y)) == 1) = false by rw [beq_eq_false_iff_ne]; exact h2, h3, h4]; rfl
noncomputable def I36 : (R : Type) → List DV → (List DV → Option R) → Option R := fun _ ds k => match ds with
  | [.v (.one (.ints .u8 32 x)), .v (.one (.ints .u8 32 y))] => bif okB x && okB y then k [.v (.one (.ints .u8 32 (feN (ratN (vB x) (vB y))))), .v (.one (.bool (ratB (vB x) (vB y))))] else none
  | _ => none
theorem c36 : Contract Try.prog 36 { sig := S36, impl := I36 } := by
  refine Contract.refine fun R ds k r h => ⟨_, f36_contract 0 HI_ok, ?_⟩
  unfold I36 at h
  split at h
  · rename_i x y
    rcases hc : okB x && okB y with _ | _
    · rw [hc] at h; cases h
    · rw [hc, cond_true] at h
      simp only [Bool.and_eq_true] at hc
      rw [f36_raw_eq, f36_num x y hc.1 hc.2]; exact h
  · cases h

noncomputable def HJ : Ctx := (36, { sig := S36, impl := I36 }) :: HI
theorem HJ_ok : CtxOk Try.prog HJ := ctxOk_cons ok36 rfl c36 HI_ok
end Go.Proofs.Ytcgolglcjfknpaa

/- What rime/field.Reduce comes to. MADE BY PROGRAM (wip/tools/mkfn.py, EngGen.lean). -/
namespace Go.Proofs.Ytcgolglcjfknpaa
open Go Go.Eng
set_option maxRecDepth 100000
set_option linter.unusedVariables false

def f63_0_sh : Shp := { n := 32, lo := 1, slots := [(0, .one (.fix (At.own 0))), (2, .one (.fix (At.ptr 2 0 Off.z 32))), (3, .one (.fix (At.ptr 3 0 Off.z 5))), (4, .one (.fix (At.ptr 4 0 Off.z 5))), (5, .one (.int IntKind.i64))], items := [(0, .view IntKind.u8 1), (2, .obj [.ints IntKind.u8 32]), (3, .obj [.ints IntKind.u64 5]), (4, .obj [.ints IntKind.u64 5])] }
def f63_0_ex1 : Shp := { n := 32, lo := 1, slots := [(15, .one (.bool)), (0, .one (.fix (At.own 0))), (2, .one (.fix (At.ptr 2 0 Off.z 32))), (3, .one (.fix (At.ptr 3 0 Off.z 5))), (4, .one (.fix (At.ptr 4 0 Off.z 5))), (5, .one (.int IntKind.i64))], items := [(0, .view IntKind.u8 1), (2, .obj [.ints IntKind.u8 32]), (3, .obj [.ints IntKind.u64 5]), (4, .obj [.ints IntKind.u64 5])] }
noncomputable def f63_0_st {R : Type} (N : Nat) (self : Int → List Int → List Int → List Int → List Int → Option R) (k1 : Bool → Int → List Int → List Int → List Int → List Int → Option R) (x1 : Int) (x2 : List Int) (x3 : List Int) (x4 : List Int) (x5 : List Int) : Option R :=
 bif Decidable.decide (x1 > 0) then
 let v0 : Int := IntKind.i64.wrap (x1 - 32);
 bif loOk (Option.some v0) (hiInt Option.none (rowLen 1 x2)) then
 let v1 : List Int := Go.Eng.sub x2 (plusO Off.z 1 (Option.some v0)) (mulE (Go.Eng.subN (hiNat Option.none (rowLen 1 x2)) (Option.some v0)) 1);
 let v2 : Nat := Min.min (rowLen 1 v1) (Go.Eng.subN (hiNat Option.none 32) Option.none);
 let v3 : List Int := splice (List.replicate 32 0) (plusO Off.z 1 Option.none) (List.take (mulE v2 1) v1);
 self v0 x2 x3 (plusL (timesL x4 x5) (loadL v3)) x5
 else Option.none
else k1 (Decidable.decide (x1 > 0)) x1 x2 x3 x4 x5
noncomputable def f63_0_lp {R : Type} (N : Nat) (k1 : Bool → Int → List Int → List Int → List Int → List Int → Option R) : Nat → Int → List Int → List Int → List Int → List Int → Option R
 | 0, _, _, _, _, _ => none
 | n + 1, x1, x2, x3, x4, x5 => f63_0_st N (f63_0_lp N k1 n) k1 x1 x2 x3 x4 x5
noncomputable def f63_0_F (N : Nat) : (R : Type) → List Leaf → (X → AS → Option R) → Option R := fun _ ls K => match ls with
 | [.i x1, .l x2, .l x3, .l x4, .l x5] => f63_0_lp N (fun y1 y2 y3 y4 y5 y6 => K (X.normal) (fill f63_0_ex1 [.b y1, .i y2, .l y3, .l y4, .l y5, .l y6])) N x1 x2 x3 x4 x5
 | _ => none
noncomputable def f63_raw {R : Type} (N : Nat) (e : List Int) (k : List DV → Option R) : Option R :=
 let v0 : Int := IntKind.i64.wrap (nI (rowLen 1 e) + 31);
let v1 : Int := IntKind.i64.wrap (v0.tdiv 32);
let v2 : Int := IntKind.i64.wrap (v1 * 32);
let v3 : List Int := (List.replicate 5 0).set 0 38;
f63_0_lp N (fun w4_1 w4_2 w4_3 w4_4 w4_5 w4_6 => k [DV.v (SV.one (At.ints IntKind.u8 32 (feL w4_5)))]) N v2 e (List.replicate 32 0) (List.replicate 5 0) v3


noncomputable def E63 (N : Nat) : Env := { Θ := Th, Γ := GJ, K := K63, ν := N63, fuel := 0, lp := [(0, mkL N63_0 f63_0_sh (f63_0_F N))] }

theorem f63_0_st_eq {R : Type} (N : Nat) (K : X → AS → Option R) (n : Nat) (x1 : Int) (x2 : List Int) (x3 : List Int) (x4 : List Int) (x5 : List Int) : roundsOf (E63 N) N63_0 0 B63_0 K (n + 1) (fill f63_0_sh [.i x1, .l x2, .l x3, .l x4, .l x5]) = f63_0_st N (fun x1 x2 x3 x4 x5 => roundsOf (E63 N) N63_0 0 B63_0 K n (fill f63_0_sh [.i x1, .l x2, .l x3, .l x4, .l x5])) (fun y1 y2 y3 y4 y5 y6 => K (X.normal) (fill f63_0_ex1 [.b y1, .i y2, .l y3, .l y4, .l y5, .l y6])) x1 x2 x3 x4 x5 := by kernel_rfl
theorem f63_0_lp_eq {R : Type} (N : Nat) (K : X → AS → Option R) : ∀ (n : Nat) (x1 : Int) (x2 : List Int) (x3 : List Int) (x4 : List Int) (x5 : List Int), roundsOf (E63 N) N63_0 0 B63_0 K n (fill f63_0_sh [.i x1, .l x2, .l x3, .l x4, .l x5]) = f63_0_lp N (fun y1 y2 y3 y4 y5 y6 => K (X.normal) (fill f63_0_ex1 [.b y1, .i y2, .l y3, .l y4, .l y5, .l y6])) n x1 x2 x3 x4 x5
  | 0, _, _, _, _, _ => rfl
  | n + 1, x1, x2, x3, x4, x5 => by
    rw [f63_0_st_eq, f63_0_lp, show (fun x1 x2 x3 x4 x5 => roundsOf (E63 N) N63_0 0 B63_0 K n (fill f63_0_sh [.i x1, .l x2, .l x3, .l x4, .l x5])) = f63_0_lp N (fun y1 y2 y3 y4 y5 y6 => K (X.normal) (fill f63_0_ex1 [.b y1, .i y2, .l y3, .l y4, .l y5, .l y6])) n from by funext x1 x2 x3 x4 x5; exact f63_0_lp_eq N K n x1 x2 x3 x4 x5]
theorem f63_0_ok (N : Nat) (hlp : LoopsOk Try.prog (E63 N).lp B63_0) (hΓ : CtxOk Try.prog (E63 N).Γ) : LoopOk Try.prog (mkL N63_0 f63_0_sh (f63_0_F N)) 0 B63_0 := by
  refine loopOk_of (E := E63 N) thOk hΓ mixed hlp ?_
  intro R ls K r h
  unfold f63_0_F at h
  split at h
  · exact ⟨N, by rw [f63_0_lp_eq]; exact h⟩
  · cases h

theorem lok63_0 (N : Nat) (hΓ : CtxOk Try.prog GJ) : LoopOk Try.prog (mkL N63_0 f63_0_sh (f63_0_F N)) 0 B63_0 := f63_0_ok N (loopsOk_of (l := []) (by kernel_rfl) trivial) hΓ
theorem f63_contract (N : Nat) (hΓ : CtxOk Try.prog GJ) : Contract Try.prog 63 { sig := S63, impl := fun _ ds k => call (E63 N) S63 32 B63 R63 ds k } :=
  call_contract (E := E63 N) thOk hΓ mixed ok63.look ok63.body ok63.n ok63.rv ok63.name rfl (by decide) (loopsOk_of (l := [(0, B63_0)]) (by kernel_rfl) (allOk_cons (L := mkL N63_0 f63_0_sh (f63_0_F N)) rfl (lok63_0 N hΓ) trivial))
theorem f63_raw_eq {R : Type} (N : Nat) (e : List Int) (k : List DV → Option R) : call (E63 N) S63 32 B63 R63 [.lst .u8 1 e] k = f63_raw N e k := by kernel_rfl
end Go.Proofs.Ytcgolglcjfknpaa

/- What rime/field.Decode comes to. MADE BY PROGRAM (wip/tools/mkfn.py, EngGen.lean). -/
namespace Go.Proofs.Ytcgolglcjfknpaa
open Go Go.Eng
set_option maxRecDepth 100000
set_option linter.unusedVariables false

noncomputable def f64_raw {R : Type} (N : Nat) (e : List Int) (k : List DV → Option R) : Option R :=
 bif nI (rowLen 1 e) != 32 then k [DV.v (SV.one (At.ints IntKind.u8 32 (List.replicate 32 0))), DV.v (SV.one (At.int IntKind.i64 3))] else bif Nat.ble 1 32 && Nat.ble 32 (rowLen 1 e) then bif okB (List.take 32 (List.drop 0 e)) then bif Decidable.decide (numB (List.take 32 (List.drop 0 e)) < p25519) then k [DV.v (SV.one (At.ints IntKind.u8 32 (List.take 32 (List.drop 0 e)))), DV.v (SV.one (At.int IntKind.i64 0))] else k [DV.v (SV.one (At.ints IntKind.u8 32 (List.replicate 32 0))), DV.v (SV.one (At.int IntKind.i64 11))] else Option.none else Option.none


noncomputable def E64 (N : Nat) : Env := { Θ := Th, Γ := GJ, K := K64, ν := N64, fuel := 0, lp := [] }


theorem f64_contract (N : Nat) (hΓ : CtxOk Try.prog GJ) : Contract Try.prog 64 { sig := S64, impl := fun _ ds k => call (E64 N) S64 16 B64 R64 ds k } :=
  call_contract (E := E64 N) thOk hΓ mixed ok64.look ok64.body ok64.n ok64.rv ok64.name rfl (by decide) (loopsOk_of (l := []) (by kernel_rfl) trivial)
theorem f64_raw_eq {R : Type} (N : Nat) (e : List Int) (k : List DV → Option R) : call (E64 N) S64 16 B64 R64 [.lst .u8 1 e] k = f64_raw N e k := by kernel_rfl
end Go.Proofs.Ytcgolglcjfknpaa

/- What rime/rimelaw01.num comes to. MADE BY PROGRAM (wip/tools/mkfn.py, EngGen.lean). -/
namespace Go.Proofs.Ytcgolglcjfknpaa
open Go Go.Eng
set_option maxRecDepth 100000
set_option linter.unusedVariables false

noncomputable def f65_raw {R : Type} (N : Nat) (x : Int) (k : List DV → Option R) : Option R :=
 k [DV.v (SV.one (At.int IntKind.i64 x))]


noncomputable def E65 (N : Nat) : Env := { Θ := Th, Γ := GJ, K := K65, ν := N65, fuel := 0, lp := [] }


theorem f65_contract (N : Nat) (hΓ : CtxOk Try.prog GJ) : Contract Try.prog 65 { sig := S65, impl := fun _ ds k => call (E65 N) S65 4 B65 R65 ds k } :=
  call_contract (E := E65 N) thOk hΓ mixed ok65.look ok65.body ok65.n ok65.rv ok65.name rfl (by decide) (loopsOk_of (l := []) (by kernel_rfl) trivial)
theorem f65_raw_eq {R : Type} (N : Nat) (x : Int) (k : List DV → Option R) : call (E65 N) S65 4 B65 R65 [.v (.one (.int .i64 x))] k = f65_raw N x k := by kernel_rfl
end Go.Proofs.Ytcgolglcjfknpaa

/- The numbers p, p - 1, (p - 1) / 2 as bytes, as the laws make them. -/
namespace Go.Proofs.Ytcgolglcjfknpaa
open Go Go.Eng
set_option maxRecDepth 100000
set_option linter.unusedVariables false
noncomputable def E20 (N : Nat) : Env := { Θ := Th, Γ := [], K := K20, ν := N20, fuel := 60, lp := [] }
theorem f20_contract (N : Nat) : Contract Try.prog 20 { sig := S20, impl := fun _ ds k => call (E20 N) S20 20 B20 R20 ds k } :=
  call_contract (E := E20 N) thOk ctxOk_nil mixed ok20.look ok20.body ok20.n ok20.rv ok20.name rfl (by decide) (loopsOk_of (l := [(0, B20_0)]) (by kernel_rfl) (allOk_skip rfl trivial))
noncomputable def E19 (N : Nat) : Env := { Θ := Th, Γ := [], K := K19, ν := N19, fuel := 60, lp := [] }
theorem f19_contract (N : Nat) : Contract Try.prog 19 { sig := S19, impl := fun _ ds k => call (E19 N) S19 42 B19 R19 ds k } :=
  call_contract (E := E19 N) thOk ctxOk_nil mixed ok19.look ok19.body ok19.n ok19.rv ok19.name rfl (by decide) (loopsOk_of (l := [(0, B19_0)]) (by kernel_rfl) (allOk_skip rfl trivial))
def prmL0 : List Int := [237, 255, 255, 255, 255, 255, 255, 255, 255, 255, 255, 255, 255, 255, 255, 255, 255, 255, 255, 255, 255, 255, 255, 255, 255, 255, 255, 255, 255, 255, 255, 127]
def prmL1 : List Int := [236, 255, 255, 255, 255, 255, 255, 255, 255, 255, 255, 255, 255, 255, 255, 255, 255, 255, 255, 255, 255, 255, 255, 255, 255, 255, 255, 255, 255, 255, 255, 127]
def halfL : List Int := [246, 255, 255, 255, 255, 255, 255, 255, 255, 255, 255, 255, 255, 255, 255, 255, 255, 255, 255, 255, 255, 255, 255, 255, 255, 255, 255, 255, 255, 255, 255, 63]

theorem f20_0 {R : Type} (k : List DV → Option R) : call (E20 0) S20 20 B20 R20 [.v (.one (.int .u8 0))] k = k [.lst .u8 1 prmL0] := by kernel_rfl
theorem f20_1 {R : Type} (k : List DV → Option R) : call (E20 0) S20 20 B20 R20 [.v (.one (.int .u8 1))] k = k [.lst .u8 1 prmL1] := by kernel_rfl
theorem f19_1 {R : Type} (k : List DV → Option R) : call (E19 0) S19 42 B19 R19 [.lst .u8 1 prmL1] k = k [.lst .u8 1 halfL] := by kernel_rfl
noncomputable def I20 : (R : Type) → List DV → (List DV → Option R) → Option R := fun _ ds k => match ds with
  | [.v (.one (.int .u8 x))] => bif decide (x = 0) then k [.lst .u8 1 prmL0] else bif decide (x = 1) then k [.lst .u8 1 prmL1] else none
  | _ => none
theorem c20 : Contract Try.prog 20 { sig := S20, impl := I20 } := by
  refine Contract.refine fun R ds k r h => ⟨_, f20_contract 0, ?_⟩
  unfold I20 at h
  split at h
  · rename_i x
    rcases hc : decide (x = 0) with _ | _
    · rw [hc, cond_false] at h
      rcases hd : decide (x = 1) with _ | _
      · rw [hd] at h; cases h
      · rw [hd, cond_true] at h
        rw [decide_eq_true_eq] at hd
        subst hd; rw [f20_1]; exact h
    · rw [hc, cond_true] at h
      rw [decide_eq_true_eq] at hc
      subst hc; rw [f20_0]; exact h
  · cases h
noncomputable def I19 : (R : Type) → List DV → (List DV → Option R) → Option R := fun _ ds k => match ds with
  | [.lst .u8 1 e] => bif decide (e = prmL1) then k [.lst .u8 1 halfL] else none
  | _ => none
theorem c19 : Contract Try.prog 19 { sig := S19, impl := I19 } := by
  refine Contract.refine fun R ds k r h => ⟨_, f19_contract 0, ?_⟩
  unfold I19 at h
  split at h
  · rename_i e
    rcases hc : decide (e = prmL1) with _ | _
    · rw [hc] at h; cases h
    · rw [hc, cond_true] at h
      rw [decide_eq_true_eq] at hc
      subst hc; rw [f19_1]; exact h
  · cases h
theorem GL_ok' : CtxOk Try.prog ((19, { sig := S19, impl := I19 }) :: (20, { sig := S20, impl := I20 }) :: GJ) := ctxOk_cons ok19 rfl c19 (ctxOk_cons ok20 rfl c20 GJ_ok)
noncomputable def GL : Ctx := (999999, noFI) :: (19, { sig := S19, impl := I19 }) :: (20, { sig := S20, impl := I20 }) :: GJ
theorem GL_ok : CtxOk Try.prog GL := ctxOk_prune GL_ok'
theorem okE_prm0 : okE prmL0 = true := by decide
theorem okE_half : okE halfL = true := by decide
theorem num_prm0 : numB prmL0 = p25519 := by decide
theorem num_half : numB halfL = ph := by decide
end Go.Proofs.Ytcgolglcjfknpaa

/- Reduce, Decode, as numbers. -/
namespace Go.Proofs.Ytcgolglcjfknpaa
open Go Go.Eng
set_option maxRecDepth 100000
set_option linter.unusedVariables false

/-- block m of 32 bytes, filled up -/
def blkU (e : List Int) (m : Nat) : List Int := ((e.drop (32 * m)).take (e.length - 32 * m)).take (min ((e.drop (32 * m)).take (e.length - 32 * m)).length 32)
def blkE (e : List Int) (m : Nat) : List Int := blkU e m ++ (List.replicate 32 0).drop (blkU e m).length
def redL (e : List Int) : Nat → List Int → List Int
  | 0, r => r
  | m + 1, r => redL e m (plusL (timesL r [38, 0, 0, 0, 0]) (loadL (blkE e m)))
noncomputable def redV (e : List Int) : Nat → Nat → Nat
  | 0, v => v
  | m + 1, v => redV e m (addN (mulN v 38) (vB (blkE e m)))
def blocks (e : List Int) : Nat := if e.length + 31 < 9223372036854775808 then (e.length + 31) / 32 else 0

theorem f63_in {R : Type} (N : Nat) (k1 : Bool → Int → List Int → List Int → List Int → List Int → Option R) (e z : List Int) :
    ∀ m : Nat, 32 * m ≤ e.length + 31 → 32 * m < 9223372036854775808 → ∀ fuel, m < fuel → ∀ r, f63_0_lp N k1 fuel ((32 * m : Nat) : Int) e z r [38, 0, 0, 0, 0] = k1 false 0 e z (redL e m r) [38, 0, 0, 0, 0] := by
  intro m
  induction m with
  | zero =>
    intro _ _ fuel hf r
    obtain ⟨f, rfl⟩ : ∃ f, fuel = f + 1 := ⟨fuel - 1, by omega⟩
    rfl
  | succ m ih =>
    intro hm hs fuel hf r
    obtain ⟨f, rfl⟩ : ∃ f, fuel = f + 1 := ⟨fuel - 1, by omega⟩
    show f63_0_st N (f63_0_lp N k1 f) k1 _ _ _ _ _ = _
    unfold f63_0_st
    rw [show decide (((32 * (m + 1) : Nat) : Int) > 0) = true from decide_eq_true (by omega), cond_true]
    rw [show IntKind.i64.wrap (((32 * (m + 1) : Nat) : Int) - 32) = ((32 * m : Nat) : Int) by rw [wrapI (by omega) (by omega)]; omega]
    dsimp only
    rw [show loOk (some ((32 * m : Nat) : Int)) (hiInt none (rowLen 1 e)) = true by
      show (decide (0 ≤ ((32 * m : Nat) : Int)) && decide (((32 * m : Nat) : Int) ≤ (e.length : Int))) = true
      rw [decide_eq_true (by omega), decide_eq_true (by omega)]; rfl, cond_true]
    exact ih (by omega) (by omega) f (by omega) _

theorem f63_spec {R : Type} (N : Nat) (e : List Int) (hN : e.length + 1 < N) (he : e.length < 9223372036854775808) (k : List DV → Option R) : f63_raw N e k = k [.v (.one (.ints .u8 32 (feL (redL e (blocks e) [0, 0, 0, 0, 0]))))] := by
  unfold f63_raw
  dsimp only
  rw [show nI (rowLen 1 e) = (e.length : Int) from rfl, show (List.replicate 5 (0 : Int)).set 0 38 = [38, 0, 0, 0, 0] from rfl]
  unfold blocks
  by_cases h : e.length + 31 < 9223372036854775808
  · rw [if_pos h, wrapI (a := (e.length : Int) + 31) (by omega) (by omega)]
    rw [show ((e.length : Int) + 31).tdiv 32 = (((e.length + 31) / 32 : Nat) : Int) from rfl]
    rw [wrapI (a := (((e.length + 31) / 32 : Nat) : Int)) (by omega) (by omega), wrapI (by omega) (by omega)]
    rw [show (((e.length + 31) / 32 : Nat) : Int) * 32 = ((32 * ((e.length + 31) / 32) : Nat) : Int) by omega]
    rw [f63_in N _ e _ ((e.length + 31) / 32) (by omega) (by omega) N (by omega)]
    rfl
  · rw [if_neg h]
    rw [show IntKind.i64.wrap ((e.length : Int) + 31) = -((18446744073709551616 - 31 - e.length : Nat) : Int) by simp [IntKind.wrap, IntKind.bits, IntKind.signed]; omega]
    rw [Int.neg_tdiv, show (((18446744073709551616 - 31 - e.length : Nat) : Int)).tdiv 32 = (((18446744073709551616 - 31 - e.length) / 32 : Nat) : Int) from rfl]
    rw [wrapI (a := -(((18446744073709551616 - 31 - e.length) / 32 : Nat) : Int)) (by omega) (by omega), wrapI (by omega) (by omega)]
    obtain ⟨f, rfl⟩ : ∃ f, N = f + 1 := ⟨N - 1, by omega⟩
    show f63_0_st _ (f63_0_lp _ _ f) _ _ _ _ _ _ = _
    unfold f63_0_st
    rw [show decide (-(((18446744073709551616 - 31 - e.length) / 32 : Nat) : Int) * 32 > 0) = false from decide_eq_false (by omega), cond_false]
    rfl

theorem blkU_mem {e : List Int} {m : Nat} {b : Int} (h : b ∈ blkU e m) : b ∈ e := List.mem_of_mem_drop (List.mem_of_mem_take (List.mem_of_mem_take h))
theorem okE_mem {e : List Int} (h : okE e = true) : ∀ b ∈ e, 0 ≤ b ∧ b < 256 := by
  obtain ⟨_, l, rfl, hl⟩ := okE_of h
  intro b hb
  obtain ⟨n, hn, rfl⟩ := List.mem_map.mp hb
  have := hl n hn
  exact ⟨Int.natCast_nonneg n, Int.ofNat_lt.mpr this⟩
theorem okB_mem {x : List Int} (hl : x.length = 32) (h : ∀ b ∈ x, 0 ≤ b ∧ b < 256) : okB x = true := by
  unfold okB
  rw [decide_eq_true hl, Bool.true_and, List.all_eq_true]
  intro b hb
  rw [Bool.and_eq_true]
  exact ⟨decide_eq_true (h b hb).1, decide_eq_true (h b hb).2⟩
theorem blk_ok {e : List Int} (h : okE e = true) (m : Nat) : okB (blkE e m) = true := by
  refine okB_mem ?_ fun b hb => ?_
  · have : (blkU e m).length ≤ 32 := by
      unfold blkU; rw [List.length_take]; omega
    unfold blkE
    rw [List.length_append, List.length_drop, List.length_replicate]; omega
  · rcases List.mem_append.1 hb with hb | hb
    · exact okE_mem h b (blkU_mem hb)
    · rw [List.eq_of_mem_replicate (List.mem_of_mem_drop hb)]; decide
theorem el38 : El [38, 0, 0, 0, 0] 38 := ⟨38, 0, 0, 0, 0, rfl, ⟨by decide, by decide, by decide, by decide, by decide⟩, by decide⟩
theorem red_el {e : List Int} (h : okE e = true) : ∀ (m : Nat) {r : List Int} {v : Nat}, El r v → El (redL e m r) (redV e m v)
  | 0, _, _, hr => hr
  | m + 1, _, _, hr => red_el h m (plus_N (times_N hr el38) (load_vB (blk_ok h m)))
noncomputable def redN : List Int → Nat := (stk fun e => redV e (blocks e) 0).1
theorem redN_def (e : List Int) : redN e = redV e (blocks e) 0 := congrFun (stk fun e => redV e (blocks e) 0).2 e
theorem redN_el {e : List Int} (h : okE e = true) : El (redL e (blocks e) [0, 0, 0, 0, 0]) (redN e) := by rw [redN_def]; exact red_el h _ zero_el
theorem redN_lt {e : List Int} (h : okE e = true) : redN e < p25519 := (redN_el h).lt
theorem zero_addN {a : Nat} (h : a < p25519) : addN 0 a = a := by rw [addN_def, Nat.zero_add, Nat.mod_eq_of_lt h]
/-- of 32 bytes it is their number -/
theorem redN_32 {e : List Int} (h : okB e = true) : redN e = vB e := by
  have hl : e.length = 32 := by obtain ⟨l, rfl, h, _⟩ := okB_of h; rw [nats_length]; exact h
  rw [redN_def]
  have hb : blocks e = 1 := by unfold blocks; rw [hl]; rfl
  have hk : blkE e 0 = e := by
    have : blkU e 0 = e := by
      unfold blkU
      rw [List.drop_zero, Nat.mul_zero, Nat.sub_zero, List.take_length, hl, List.take_of_length_le (by omega)]
    unfold blkE
    rw [this, hl]
    show e ++ [] = e
    rw [List.append_nil]
  rw [hb]
  show addN (mulN 0 38) (vB (blkE e 0)) = _
  rw [zero_mulN, hk, zero_addN (vB_lt e)]

theorem f63_num {R : Type} (N : Nat) (e : List Int) (he : okE e = true) (hN : e.length + 1 < N) (k : List DV → Option R) : f63_raw N e k = k [.v (.one (.ints .u8 32 (feN (redN e))))] := by
  rw [f63_spec N e hN (okE_of he).1, fe_num (redN_el he)]
noncomputable def I63 : (R : Type) → List DV → (List DV → Option R) → Option R := fun _ ds k => match ds with
  | [.lst .u8 1 e] => bif okE e then k [.v (.one (.ints .u8 32 (feN (redN e))))] else none
  | _ => none
theorem c63 : Contract Try.prog 63 { sig := S63, impl := I63 } := by
  refine Contract.refine fun R ds k r h => ?_
  unfold I63 at h
  split at h
  · rename_i e
    rcases hc : okE e with _ | _
    · rw [hc] at h; cases h
    · rw [hc, cond_true] at h
      refine ⟨_, f63_contract (e.length + 2) GJ_ok, ?_⟩
      rw [f63_raw_eq, f63_num _ e hc (by omega)]; exact h
  · cases h

/-- what Decode answers: bytes, error -/
noncomputable def decB : List Int → List Int := (stk fun e => bif e.length == 32 && decide (numB e < p25519) then e else List.replicate 32 0).1
theorem decB_def (e : List Int) : decB e = bif e.length == 32 && decide (numB e < p25519) then e else List.replicate 32 0 := congrFun (stk fun e : List Int => bif e.length == 32 && decide (numB e < p25519) then e else List.replicate 32 0).2 e
noncomputable def decE : List Int → Int := (stk fun e => bif e.length == 32 then bif decide (numB e < p25519) then 0 else 11 else 3).1
theorem decE_def (e : List Int) : decE e = bif e.length == 32 then bif decide (numB e < p25519) then 0 else 11 else 3 := congrFun (stk fun e : List Int => bif e.length == 32 then bif decide (numB e < p25519) then (0 : Int) else 11 else 3).2 e
theorem f64_num {R : Type} (e : List Int) (he : okE e = true) (k : List DV → Option R) : f64_raw 0 e k = k [.v (.one (.ints .u8 32 (decB e))), .v (.one (.int .i64 (decE e)))] := by
  unfold f64_raw
  rw [show nI (rowLen 1 e) = (e.length : Int) from rfl, decB_def, decE_def]
  by_cases h : e.length = 32
  · rw [show rowLen 1 e = 32 from h, List.drop_zero, List.take_of_length_le (Nat.le_of_eq h), h]
    rw [okB_mem h (okE_mem he)]
    cases decide (numB e < p25519) <;> rfl
  · rw [show ((e.length : Int) != 32) = true by rw [bne_iff_ne]; omega, cond_true, show (e.length == 32) = false by rw [beq_eq_false_iff_ne]; exact h]
    rfl
noncomputable def I64 : (R : Type) → List DV → (List DV → Option R) → Option R := fun _ ds k => match ds with
  | [.lst .u8 1 e] => bif okE e then k [.v (.one (.ints .u8 32 (decB e))), .v (.one (.int .i64 (decE e)))] else none
  | _ => none
theorem c64 : Contract Try.prog 64 { sig := S64, impl := I64 } := by
  refine Contract.refine fun R ds k r h => ⟨_, f64_contract 0 GJ_ok, ?_⟩
  unfold I64 at h
  split at h
  · rename_i e
    rcases hc : okE e with _ | _
    · rw [hc] at h; cases h
    · rw [hc, cond_true] at h
      rw [f64_raw_eq, f64_num e hc]; exact h
  · cases h
noncomputable def I65 : (R : Type) → List DV → (List DV → Option R) → Option R := fun _ ds k => match ds with
  | [.v (.one (.int .i64 x))] => k [.v (.one (.int .i64 x))]
  | _ => none
theorem c65 : Contract Try.prog 65 { sig := S65, impl := I65 } := by
  refine Contract.refine fun R ds k r h => ⟨_, f65_contract 0 GJ_ok, ?_⟩
  unfold I65 at h
  split at h
  · rw [f65_raw_eq]; exact h
  · cases h
/-- the limbs of a number, as something that no reckoning looks into -/
noncomputable def limS : Nat → List Int := (stk limN).1
theorem limS_def (v : Nat) : limS v = limN v := congrFun (stk limN).2 v
noncomputable def I13s : (R : Type) → List DV → (List DV → Option R) → Option R := fun _ ds k => match ds with
  | [.v (.one (.ints .u8 32 x))] => bif okB x then k [.v (.one (.ints .u64 5 (limS (vB x))))] else none
  | _ => none
theorem c13s : Contract Try.prog 13 { sig := S13, impl := I13s } := by
  refine Contract.refine fun R ds k r h => ⟨_, c13, ?_⟩
  unfold I13s at h
  split at h
  · rw [limS_def] at h; exact h
  · cases h
noncomputable def GM' : Ctx := (13, { sig := S13, impl := I13s }) :: (63, { sig := S63, impl := I63 }) :: (64, { sig := S64, impl := I64 }) :: (65, { sig := S65, impl := I65 }) :: GJ
theorem GM_ok' : CtxOk Try.prog GM' := ctxOk_cons ok13 rfl c13s (ctxOk_cons ok63 rfl c63 (ctxOk_cons ok64 rfl c64 (ctxOk_cons ok65 rfl c65 GJ_ok)))
noncomputable def GM : Ctx := (999999, noFI) :: GM'
theorem GM_ok : CtxOk Try.prog GM := ctxOk_prune GM_ok'
def startB (n : Nat) (x y z : List Int) : AS :=
  { n := n, lo := 0, tmps := [(0, .s (.one (.ints .u8 32 x))), (1, .s (.one (.ints .u64 5 y))), (2, .s (.one (.own 2)))], items := [(2, .view .u8 1 z)] }
end Go.Proofs.Ytcgolglcjfknpaa

/- the program's and the document's functions together. -/
namespace Go.Proofs.Ytcgolglcjfknpaa
open Go Go.Eng
set_option maxRecDepth 100000

noncomputable def GP0 : Ctx := (36, { sig := S36, impl := I36 }) :: (95, { sig := S95, impl := I95 }) :: (40, { sig := S40, impl := I40 }) :: (51, { sig := S51, impl := I51 }) :: (49, { sig := S49, impl := I49 }) :: (33, { sig := S33, impl := I33 }) :: (38, { sig := S38, impl := I38 }) :: (44, { sig := S44, impl := I44 }) :: (46, { sig := S46, impl := I46 }) :: (47, { sig := S47, impl := I47 }) :: (50, { sig := S50, impl := I50 }) :: (26, { sig := S26, impl := I26 }) :: (28, { sig := S28, impl := I28 }) :: (29, { sig := S29, impl := I29 }) :: (31, { sig := S31, impl := I31 }) :: (71, { sig := S71, impl := I71 }) :: (96, { sig := S96, impl := I96 }) :: (52, { sig := S52, impl := I52 }) :: (54, { sig := S54, impl := I54 }) :: GM'
theorem GP0_ok : CtxOk Try.prog GP0 := ctxOk_cons ok36 rfl c36 (ctxOk_cons ok95 rfl c95 (ctxOk_cons ok40 rfl c40 (ctxOk_cons ok51 rfl c51 (ctxOk_cons ok49 rfl c49 (ctxOk_cons ok33 rfl c33 (ctxOk_cons ok38 rfl c38 (ctxOk_cons ok44 rfl c44 (ctxOk_cons ok46 rfl c46 (ctxOk_cons ok47 rfl c47 (ctxOk_cons ok50 rfl c50 (ctxOk_cons ok26 rfl c26 (ctxOk_cons ok28 rfl c28 (ctxOk_cons ok29 rfl c29 (ctxOk_cons ok31 rfl c31 (ctxOk_cons ok71 rfl c71 (ctxOk_cons ok96 rfl c96 (ctxOk_cons ok52 rfl c52 (ctxOk_cons ok54 rfl c54 GM_ok'))))))))))))))))))
noncomputable def GP : Ctx := (999999, noFI) :: GP0
theorem GP_ok : CtxOk Try.prog GP := ctxOk_prune GP0_ok
def start2b (n : Nat) (x y : List Int) (c : Bool) : AS :=
  { n := n, lo := 0, tmps := [(0, .s (.one (.ints .u8 32 x))), (1, .s (.one (.ints .u8 32 y))), (2, .s (.one (.bool c)))], items := [] }
end Go.Proofs.Ytcgolglcjfknpaa

/- What rime/field.InvertAll comes to. MADE BY PROGRAM (wip/tools/mkfn.py, EngGen.lean). -/
namespace Go.Proofs.Ytcgolglcjfknpaa
open Go Go.Eng
set_option maxRecDepth 100000
set_option linter.unusedVariables false

def f57_0_sh : Shp := { n := 71, lo := 1, slots := [(0, .one (.fix (At.own 0))), (3, .one (.fix (At.own 13))), (4, .one (.fix (At.own 16))), (5, .one (.fix (At.ptr 5 0 Off.z 5))), (18, .one (.fix (At.own 0))), (19, .one (.int IntKind.i64)), (20, .one (.int IntKind.i64))], items := [(0, .view IntKind.u8 32), (5, .obj [.ints IntKind.u64 5]), (13, .row IntKind.u8 32), (16, .row IntKind.u64 5)] }
def f57_0_ex1 : Shp := { n := 71, lo := 1, slots := [(21, .one (.bool)), (0, .one (.fix (At.own 0))), (3, .one (.fix (At.own 13))), (4, .one (.fix (At.own 16))), (5, .one (.fix (At.ptr 5 0 Off.z 5))), (18, .one (.fix (At.own 0))), (19, .one (.int IntKind.i64)), (20, .one (.int IntKind.i64))], items := [(0, .view IntKind.u8 32), (5, .obj [.ints IntKind.u64 5]), (13, .row IntKind.u8 32), (16, .row IntKind.u64 5)] }
noncomputable def f57_0_st {R : Type} (N : Nat) (self : Int → Int → List Int → List Int → List Int → List Int → Option R) (k1 : Bool → Int → Int → List Int → List Int → List Int → List Int → Option R) (x1 : Int) (x2 : Int) (x3 : List Int) (x4 : List Int) (x5 : List Int) (x6 : List Int) : Option R :=
 bif Decidable.decide (x2 < x1) then
 bif Decidable.decide (0 ≤ x2) && Decidable.decide (x2 < nI (rowLen 32 x3)) then
 bif Decidable.decide (0 ≤ x2) && Decidable.decide (x2 < nI (rowLen 5 x6)) then
 bif !Decidable.decide (feL (loadL (List.take 32 (List.drop (mulE x2.toNat 32) x3))) = List.replicate 32 0) then
 let v0 : Int := IntKind.i64.wrap (x2 + 1);
 let v1 : List Int := splice x6 (Off.at (mulE x2.toNat 5)) x4;
 self x1 v0 x3 (timesL x4 (loadL (List.take 32 (List.drop (mulE x2.toNat 32) x3)))) x5 v1
 else
 let v2 : Int := IntKind.i64.wrap (x2 + 1);
 let v3 : List Int := splice x6 (Off.at (mulE x2.toNat 5)) x4;
 self x1 v2 x3 x4 x5 v3
 else Option.none
 else Option.none
else k1 (Decidable.decide (x2 < x1)) x1 x2 x3 x4 x5 x6
noncomputable def f57_0_lp {R : Type} (N : Nat) (k1 : Bool → Int → Int → List Int → List Int → List Int → List Int → Option R) : Nat → Int → Int → List Int → List Int → List Int → List Int → Option R
 | 0, _, _, _, _, _, _ => none
 | n + 1, x1, x2, x3, x4, x5, x6 => f57_0_st N (f57_0_lp N k1 n) k1 x1 x2 x3 x4 x5 x6
noncomputable def f57_0_F (N : Nat) : (R : Type) → List Leaf → (X → AS → Option R) → Option R := fun _ ls K => match ls with
 | [.i x1, .i x2, .l x3, .l x4, .l x5, .l x6] => f57_0_lp N (fun y1 y2 y3 y4 y5 y6 y7 => K (X.normal) (fill f57_0_ex1 [.b y1, .i y2, .i y3, .l y4, .l y5, .l y6, .l y7])) N x1 x2 x3 x4 x5 x6
 | _ => none
def f57_2_sh : Shp := { n := 71, lo := 1, slots := [(0, .one (.fix (At.own 0))), (3, .one (.fix (At.own 13))), (4, .one (.fix (At.own 16))), (5, .one (.fix (At.ptr 5 0 Off.z 5))), (9, .one (.int IntKind.i64))], items := [(0, .view IntKind.u8 32), (5, .obj [.ints IntKind.u64 5]), (13, .row IntKind.u8 32), (16, .row IntKind.u64 5)] }
def f57_2_ex1 : Shp := { n := 71, lo := 1, slots := [(45, .one (.bool)), (0, .one (.fix (At.own 0))), (3, .one (.fix (At.own 13))), (4, .one (.fix (At.own 16))), (5, .one (.fix (At.ptr 5 0 Off.z 5))), (9, .one (.int IntKind.i64))], items := [(0, .view IntKind.u8 32), (5, .obj [.ints IntKind.u64 5]), (13, .row IntKind.u8 32), (16, .row IntKind.u64 5)] }
noncomputable def f57_2_st {R : Type} (N : Nat) (self : Int → List Int → List Int → List Int → List Int → Option R) (k1 : Bool → Int → List Int → List Int → List Int → List Int → Option R) (x1 : Int) (x2 : List Int) (x3 : List Int) (x4 : List Int) (x5 : List Int) : Option R :=
 bif Decidable.decide (x1 ≥ 0) then
 bif Decidable.decide (0 ≤ x1) && Decidable.decide (x1 < nI (rowLen 32 x2)) then
 bif !Decidable.decide (feL (loadL (List.take 32 (List.drop (mulE x1.toNat 32) x2))) = List.replicate 32 0) then
 bif Decidable.decide (0 ≤ x1) && Decidable.decide (x1 < nI (rowLen 5 x5)) then
 bif Decidable.decide (0 ≤ x1) && Decidable.decide (x1 < nI (rowLen 32 x4)) then
 let v0 : Int := IntKind.i64.wrap (x1 - 1);
 let v1 : List Int := splice x4 (Off.at (mulE x1.toNat 32)) (feL (timesL x3 (List.take 5 (List.drop (mulE x1.toNat 5) x5))));
 self v0 x2 (timesL x3 (loadL (List.take 32 (List.drop (mulE x1.toNat 32) x2)))) v1 x5
 else Option.none
 else Option.none
 else
 let v2 : Int := IntKind.i64.wrap (x1 - 1);
 self v2 x2 x3 x4 x5
 else Option.none
else k1 (Decidable.decide (x1 ≥ 0)) x1 x2 x3 x4 x5
noncomputable def f57_2_lp {R : Type} (N : Nat) (k1 : Bool → Int → List Int → List Int → List Int → List Int → Option R) : Nat → Int → List Int → List Int → List Int → List Int → Option R
 | 0, _, _, _, _, _ => none
 | n + 1, x1, x2, x3, x4, x5 => f57_2_st N (f57_2_lp N k1 n) k1 x1 x2 x3 x4 x5
noncomputable def f57_2_F (N : Nat) : (R : Type) → List Leaf → (X → AS → Option R) → Option R := fun _ ls K => match ls with
 | [.i x1, .l x2, .l x3, .l x4, .l x5] => f57_2_lp N (fun y1 y2 y3 y4 y5 y6 => K (X.normal) (fill f57_2_ex1 [.b y1, .i y2, .l y3, .l y4, .l y5, .l y6])) N x1 x2 x3 x4 x5
 | _ => none
noncomputable def f57_raw {R : Type} (N : Nat) (x : List Int) (k : List DV → Option R) : Option R :=
 bif Decidable.decide (0 ≤ nI (rowLen 32 x)) && (Decidable.decide (nI (rowLen 32 x) ≤ nI (rowLen 32 x)) && (Decidable.decide (nI (rowLen 32 x) ≤ 281474976710656) && Decidable.decide (nI (rowLen 32 x) * 32 ≤ 281474976710656))) then
 bif Decidable.decide (0 ≤ nI (rowLen 32 x)) && (Decidable.decide (nI (rowLen 32 x) ≤ nI (rowLen 32 x)) && (Decidable.decide (nI (rowLen 32 x) ≤ 281474976710656) && Decidable.decide (nI (rowLen 32 x) * 40 ≤ 281474976710656))) then
 let v0 : List Int := (List.replicate 5 0).set 0 1;
 f57_0_lp N
 (fun w1_1 w1_2 w1_3 w1_4 w1_5 w1_6 w1_7 =>
 let v2 : Int := IntKind.i64.wrap (nI (rowLen 32 w1_4) - 1);
 f57_2_lp N (fun w3_1 w3_2 w3_3 w3_4 w3_5 w3_6 => k [DV.lst IntKind.u8 32 w3_5]) N v2 w1_4 (inverseL w1_5) w1_6 w1_7)
 N (nI (rowLen 32 x)) 0 x v0 (zerosOf (mulE (nI (rowLen 32 x)).toNat 32)) (zerosOf (mulE (nI (rowLen 32 x)).toNat 5))
 else Option.none
else Option.none


noncomputable def E57 (N : Nat) : Env := { Θ := Th, Γ := GP, K := K57, ν := N57, fuel := 0, lp := [(0, mkL N57_0 f57_0_sh (f57_0_F N)), (2, mkL N57_2 f57_2_sh (f57_2_F N))] }

theorem f57_0_st_eq {R : Type} (N : Nat) (K : X → AS → Option R) (n : Nat) (x1 : Int) (x2 : Int) (x3 : List Int) (x4 : List Int) (x5 : List Int) (x6 : List Int) : roundsOf (E57 N) N57_0 0 B57_0 K (n + 1) (fill f57_0_sh [.i x1, .i x2, .l x3, .l x4, .l x5, .l x6]) = f57_0_st N (fun x1 x2 x3 x4 x5 x6 => roundsOf (E57 N) N57_0 0 B57_0 K n (fill f57_0_sh [.i x1, .i x2, .l x3, .l x4, .l x5, .l x6])) (fun y1 y2 y3 y4 y5 y6 y7 => K (X.normal) (fill f57_0_ex1 [.b y1, .i y2, .i y3, .l y4, .l y5, .l y6, .l y7])) x1 x2 x3 x4 x5 x6 := by kernel_rfl
theorem f57_0_lp_eq {R : Type} (N : Nat) (K : X → AS → Option R) : ∀ (n : Nat) (x1 : Int) (x2 : Int) (x3 : List Int) (x4 : List Int) (x5 : List Int) (x6 : List Int), roundsOf (E57 N) N57_0 0 B57_0 K n (fill f57_0_sh [.i x1, .i x2, .l x3, .l x4, .l x5, .l x6]) = f57_0_lp N (fun y1 y2 y3 y4 y5 y6 y7 => K (X.normal) (fill f57_0_ex1 [.b y1, .i y2, .i y3, .l y4, .l y5, .l y6, .l y7])) n x1 x2 x3 x4 x5 x6
  | 0, _, _, _, _, _, _ => rfl
  | n + 1, x1, x2, x3, x4, x5, x6 => by
    rw [f57_0_st_eq, f57_0_lp, show (fun x1 x2 x3 x4 x5 x6 => roundsOf (E57 N) N57_0 0 B57_0 K n (fill f57_0_sh [.i x1, .i x2, .l x3, .l x4, .l x5, .l x6])) = f57_0_lp N (fun y1 y2 y3 y4 y5 y6 y7 => K (X.normal) (fill f57_0_ex1 [.b y1, .i y2, .i y3, .l y4, .l y5, .l y6, .l y7])) n from by funext x1 x2 x3 x4 x5 x6; exact f57_0_lp_eq N K n x1 x2 x3 x4 x5 x6]
theorem f57_0_ok (N : Nat) (hlp : LoopsOk Try.prog (E57 N).lp B57_0) (hΓ : CtxOk Try.prog (E57 N).Γ) : LoopOk Try.prog (mkL N57_0 f57_0_sh (f57_0_F N)) 0 B57_0 := by
  refine loopOk_of (E := E57 N) thOk hΓ mixed hlp ?_
  intro R ls K r h
  unfold f57_0_F at h
  split at h
  · exact ⟨N, by rw [f57_0_lp_eq]; exact h⟩
  · cases h
theorem f57_2_st_eq {R : Type} (N : Nat) (K : X → AS → Option R) (n : Nat) (x1 : Int) (x2 : List Int) (x3 : List Int) (x4 : List Int) (x5 : List Int) : roundsOf (E57 N) N57_2 2 B57_2 K (n + 1) (fill f57_2_sh [.i x1, .l x2, .l x3, .l x4, .l x5]) = f57_2_st N (fun x1 x2 x3 x4 x5 => roundsOf (E57 N) N57_2 2 B57_2 K n (fill f57_2_sh [.i x1, .l x2, .l x3, .l x4, .l x5])) (fun y1 y2 y3 y4 y5 y6 => K (X.normal) (fill f57_2_ex1 [.b y1, .i y2, .l y3, .l y4, .l y5, .l y6])) x1 x2 x3 x4 x5 := by kernel_rfl
theorem f57_2_lp_eq {R : Type} (N : Nat) (K : X → AS → Option R) : ∀ (n : Nat) (x1 : Int) (x2 : List Int) (x3 : List Int) (x4 : List Int) (x5 : List Int), roundsOf (E57 N) N57_2 2 B57_2 K n (fill f57_2_sh [.i x1, .l x2, .l x3, .l x4, .l x5]) = f57_2_lp N (fun y1 y2 y3 y4 y5 y6 => K (X.normal) (fill f57_2_ex1 [.b y1, .i y2, .l y3, .l y4, .l y5, .l y6])) n x1 x2 x3 x4 x5
  | 0, _, _, _, _, _ => rfl
  | n + 1, x1, x2, x3, x4, x5 => by
    rw [f57_2_st_eq, f57_2_lp, show (fun x1 x2 x3 x4 x5 => roundsOf (E57 N) N57_2 2 B57_2 K n (fill f57_2_sh [.i x1, .l x2, .l x3, .l x4, .l x5])) = f57_2_lp N (fun y1 y2 y3 y4 y5 y6 => K (X.normal) (fill f57_2_ex1 [.b y1, .i y2, .l y3, .l y4, .l y5, .l y6])) n from by funext x1 x2 x3 x4 x5; exact f57_2_lp_eq N K n x1 x2 x3 x4 x5]
theorem f57_2_ok (N : Nat) (hlp : LoopsOk Try.prog (E57 N).lp B57_2) (hΓ : CtxOk Try.prog (E57 N).Γ) : LoopOk Try.prog (mkL N57_2 f57_2_sh (f57_2_F N)) 2 B57_2 := by
  refine loopOk_of (E := E57 N) thOk hΓ mixed hlp ?_
  intro R ls K r h
  unfold f57_2_F at h
  split at h
  · exact ⟨N, by rw [f57_2_lp_eq]; exact h⟩
  · cases h

theorem lok57_2 (N : Nat) (hΓ : CtxOk Try.prog GP) : LoopOk Try.prog (mkL N57_2 f57_2_sh (f57_2_F N)) 2 B57_2 := f57_2_ok N (loopsOk_of (l := []) (by kernel_rfl) trivial) hΓ
theorem lok57_0 (N : Nat) (hΓ : CtxOk Try.prog GP) : LoopOk Try.prog (mkL N57_0 f57_0_sh (f57_0_F N)) 0 B57_0 := f57_0_ok N (loopsOk_of (l := []) (by kernel_rfl) trivial) hΓ
theorem f57_contract (N : Nat) (hΓ : CtxOk Try.prog GP) : Contract Try.prog 57 { sig := S57, impl := fun _ ds k => call (E57 N) S57 71 B57 R57 ds k } :=
  call_contract (E := E57 N) thOk hΓ mixed ok57.look ok57.body ok57.n ok57.rv ok57.name rfl (by decide) (loopsOk_of (l := [(0, B57_0), (2, B57_2)]) (by kernel_rfl) (allOk_cons (L := mkL N57_0 f57_0_sh (f57_0_F N)) rfl (lok57_0 N hΓ) (allOk_cons (L := mkL N57_2 f57_2_sh (f57_2_F N)) rfl (lok57_2 N hΓ) trivial)))
theorem f57_raw_eq {R : Type} (N : Nat) (x : List Int) (k : List DV → Option R) : call (E57 N) S57 71 B57 R57 [.lst .u8 32 x] k = f57_raw N x k := by kernel_rfl
end Go.Proofs.Ytcgolglcjfknpaa

/- What rime/rimeref01.InvertAll comes to. MADE BY PROGRAM (wip/tools/mkfn.py, EngGen.lean). -/
namespace Go.Proofs.Ytcgolglcjfknpaa
open Go Go.Eng
set_option maxRecDepth 100000
set_option linter.unusedVariables false

def f59_0_sh : Shp := { n := 20, lo := 1, slots := [(0, .one (.fix (At.own 0))), (3, .one (.fix (At.own 1000003))), (4, .one (.int IntKind.i64))], items := [(1000003, .row IntKind.u8 32), (0, .view IntKind.u8 32)] }
def f59_0_ex1 : Shp := { n := 20, lo := 1, slots := [(8, .one (.bool)), (0, .one (.fix (At.own 0))), (3, .one (.fix (At.own 1000003))), (4, .one (.int IntKind.i64))], items := [(1000003, .row IntKind.u8 32), (0, .view IntKind.u8 32)] }
noncomputable def f59_0_st {R : Type} (N : Nat) (self : Int → List Int → List Int → Option R) (k1 : Bool → Int → List Int → List Int → Option R) (x1 : Int) (x2 : List Int) (x3 : List Int) : Option R :=
 bif Decidable.decide (x1 < nI (rowLen 32 x3)) then
 bif Decidable.decide (0 ≤ x1) && Decidable.decide (x1 < nI (rowLen 32 x3)) then
 bif okB (List.take 32 (List.drop (mulE x1.toNat 32) x3)) then
 let v0 : List Int := splice (zerosOf (1 * 32)) (Off.at (0 * 32)) (feN (pw (vB (List.take 32 (List.drop (mulE x1.toNat 32) x3))) pm2));
 bif ((2 * (rowLen 32 x2 + rowLen 32 v0) + 192) * 32).ble big48 && (rowLen 32 x2 + rowLen 32 v0).ble big48 then
 let v1 : Int := IntKind.i64.wrap (x1 + 1);
 let v2 : List Int := x2 ++ v0;
 self v1 v2 x3
 else Option.none
 else Option.none
 else Option.none
else k1 (Decidable.decide (x1 < nI (rowLen 32 x3))) x1 x2 x3
noncomputable def f59_0_lp {R : Type} (N : Nat) (k1 : Bool → Int → List Int → List Int → Option R) : Nat → Int → List Int → List Int → Option R
 | 0, _, _, _ => none
 | n + 1, x1, x2, x3 => f59_0_st N (f59_0_lp N k1 n) k1 x1 x2 x3
noncomputable def f59_0_F (N : Nat) : (R : Type) → List Leaf → (X → AS → Option R) → Option R := fun _ ls K => match ls with
 | [.i x1, .l x2, .l x3] => f59_0_lp N (fun y1 y2 y3 y4 => K (X.normal) (fill f59_0_ex1 [.b y1, .i y2, .l y3, .l y4])) N x1 x2 x3
 | _ => none
noncomputable def f59_raw {R : Type} (N : Nat) (x : List Int) (k : List DV → Option R) : Option R :=
 f59_0_lp N (fun w0_1 w0_2 w0_3 w0_4 => k [DV.lst IntKind.u8 32 w0_3]) N 0 [] x


noncomputable def E59 (N : Nat) : Env := { Θ := Th, Γ := GP, K := K59, ν := N59, fuel := 0, lp := [(0, mkL N59_0 f59_0_sh (f59_0_F N))] }

theorem f59_0_st_eq {R : Type} (N : Nat) (K : X → AS → Option R) (n : Nat) (x1 : Int) (x2 : List Int) (x3 : List Int) : roundsOf (E59 N) N59_0 0 B59_0 K (n + 1) (fill f59_0_sh [.i x1, .l x2, .l x3]) = f59_0_st N (fun x1 x2 x3 => roundsOf (E59 N) N59_0 0 B59_0 K n (fill f59_0_sh [.i x1, .l x2, .l x3])) (fun y1 y2 y3 y4 => K (X.normal) (fill f59_0_ex1 [.b y1, .i y2, .l y3, .l y4])) x1 x2 x3 := by kernel_rfl
theorem f59_0_lp_eq {R : Type} (N : Nat) (K : X → AS → Option R) : ∀ (n : Nat) (x1 : Int) (x2 : List Int) (x3 : List Int), roundsOf (E59 N) N59_0 0 B59_0 K n (fill f59_0_sh [.i x1, .l x2, .l x3]) = f59_0_lp N (fun y1 y2 y3 y4 => K (X.normal) (fill f59_0_ex1 [.b y1, .i y2, .l y3, .l y4])) n x1 x2 x3
  | 0, _, _, _ => rfl
  | n + 1, x1, x2, x3 => by
    rw [f59_0_st_eq, f59_0_lp, show (fun x1 x2 x3 => roundsOf (E59 N) N59_0 0 B59_0 K n (fill f59_0_sh [.i x1, .l x2, .l x3])) = f59_0_lp N (fun y1 y2 y3 y4 => K (X.normal) (fill f59_0_ex1 [.b y1, .i y2, .l y3, .l y4])) n from by funext x1 x2 x3; exact f59_0_lp_eq N K n x1 x2 x3]
theorem f59_0_ok (N : Nat) (hlp : LoopsOk Try.prog (E59 N).lp B59_0) (hΓ : CtxOk Try.prog (E59 N).Γ) : LoopOk Try.prog (mkL N59_0 f59_0_sh (f59_0_F N)) 0 B59_0 := by
  refine loopOk_of (E := E59 N) thOk hΓ mixed hlp ?_
  intro R ls K r h
  unfold f59_0_F at h
  split at h
  · exact ⟨N, by rw [f59_0_lp_eq]; exact h⟩
  · cases h

theorem lok59_0 (N : Nat) (hΓ : CtxOk Try.prog GP) : LoopOk Try.prog (mkL N59_0 f59_0_sh (f59_0_F N)) 0 B59_0 := f59_0_ok N (loopsOk_of (l := []) (by kernel_rfl) trivial) hΓ
theorem f59_contract (N : Nat) (hΓ : CtxOk Try.prog GP) : Contract Try.prog 59 { sig := S59, impl := fun _ ds k => call (E59 N) S59 20 B59 R59 ds k } :=
  call_contract (E := E59 N) thOk hΓ mixed ok59.look ok59.body ok59.n ok59.rv ok59.name rfl (by decide) (loopsOk_of (l := [(0, B59_0)]) (by kernel_rfl) (allOk_cons (L := mkL N59_0 f59_0_sh (f59_0_F N)) rfl (lok59_0 N hΓ) trivial))
theorem f59_raw_eq {R : Type} (N : Nat) (x : List Int) (k : List DV → Option R) : call (E59 N) S59 20 B59 R59 [.lst .u8 32 x] k = f59_raw N x k := by kernel_rfl
end Go.Proofs.Ytcgolglcjfknpaa

/- Rows of numbers: small laws. -/
namespace Go.Eng
open Go

def limG : Nat := 1099511627776

/-- the mark of a place -/
def markI (i j : Int) : Int := IntKind.u8.wrap (IntKind.i64.wrap (IntKind.i64.wrap (IntKind.i64.wrap (i * 31) + IntKind.i64.wrap (j * 7)) + 5))

theorem by_mulE (n : Nat) : mulE n 1 = n := rfl
theorem by_rowLen (xs : List Int) : rowLen 1 xs = xs.length := rfl
theorem by_drop {xs : List Int} {i : Nat} (h : i < xs.length) : xs.drop i = xs.getD i 0 :: xs.drop (i + 1) := by
  rw [List.drop_eq_getElem_cons h, List.getD_eq_getElem?_getD, List.getElem?_eq_getElem h]; rfl
theorem by_wrap {n : Nat} (h : n < 4611686018427387904) : IntKind.i64.wrap (n : Int) = n := by
  unfold IntKind.wrap
  simp only [IntKind.bits, IntKind.signed]
  have e : (n : Int) % 2 ^ 64 = n := Int.emod_eq_of_lt (by omega) (by omega)
  simp only [e]
  rw [if_neg]
  simp only [Bool.true_and, decide_eq_true_eq]
  intro h2
  have h2 : (2 : Int) ^ 63 ≤ (n : Int) := by first | exact h2 | simpa using h2
  have : (2 : Int) ^ 63 = 9223372036854775808 := by decide
  omega
theorem by_in {i n : Nat} (h : i < n) : (decide ((0 : Int) ≤ (i : Int)) && decide ((i : Int) < (n : Int))) = true := by simp; omega

/-- places up to n are filled by f, the others are as they were -/
def fillG (f : Nat → Int) (n : Nat) (xs : List Int) : List Int := xs.mapIdx fun i x => if i < n then f i else x
theorem fillG_zero (f : Nat → Int) (xs : List Int) : fillG f 0 xs = xs := by
  unfold fillG
  apply List.ext_getElem?
  intro i
  simp
theorem fillG_length (f : Nat → Int) (n : Nat) (xs : List Int) : (fillG f n xs).length = xs.length := by simp [fillG]
theorem fillG_set (f : Nat → Int) {n : Nat} {xs : List Int} : (fillG f n xs).set n (f n) = fillG f (n + 1) xs := by
  unfold fillG
  apply List.ext_getElem?
  intro i
  rw [List.getElem?_set, List.getElem?_mapIdx, List.getElem?_mapIdx, List.length_mapIdx]
  by_cases h : n = i
  · subst h
    rw [if_pos rfl]
    by_cases hl : n < xs.length
    · rw [if_pos hl, List.getElem?_eq_getElem hl]; simp
    · rw [if_neg hl, List.getElem?_eq_none (by omega)]; rfl
  · rw [if_neg h]
    by_cases hl : i < n
    · have : i < n + 1 := by omega
      simp [hl, this]
    · have : ¬ i < n + 1 := by omega
      simp [hl, this]
theorem fillG_getD {f : Nat → Int} {n : Nat} {xs : List Int} : fillG (fun i => xs.getD i 0) n xs = xs := by
  unfold fillG
  apply List.ext_getElem?
  intro i
  rw [List.getElem?_mapIdx]
  cases h : xs[i]? with
  | none => rfl
  | some x => simp [h]

/-- what is handed in, and three marks behind it -/
def marksG (n : Nat) : List Int := (List.range n).map fun (i : Nat) => markI 987 (i : Int)
def givenG (l : List Int) : List Int := l ++ (marksG (l.length + 3)).drop l.length
theorem marksG_length (n : Nat) : (marksG n).length = n := by simp [marksG]
theorem givenG_length (l : List Int) : (givenG l).length = l.length + 3 := by simp [givenG, marksG_length]
theorem givenG_take (l : List Int) : (givenG l).take l.length = l := by simp [givenG]
theorem fillG_marks (xs : List Int) : fillG (fun (i : Nat) => markI 987 (i : Int)) xs.length xs = marksG xs.length := by
  unfold fillG marksG
  apply List.ext_getElem?
  intro i
  rw [List.getElem?_mapIdx, List.getElem?_map]
  by_cases h : i < xs.length
  · rw [List.getElem?_eq_getElem h, List.getElem?_range h]; simp [h]
  · rw [List.getElem?_eq_none (by omega), List.getElem?_eq_none (by simp; omega)]; rfl
theorem fillG_given (l : List Int) : fillG (fun i => l.getD i 0) l.length (marksG (l.length + 3)) = givenG l := by
  unfold fillG givenG
  apply List.ext_getElem?
  intro i
  rw [List.getElem?_mapIdx, List.getElem?_append]
  by_cases h : i < l.length
  · rw [if_pos h, List.getElem?_eq_getElem (l := marksG (l.length + 3)) (by rw [marksG_length]; omega), List.getElem?_eq_getElem h]
    simp [h]
  · rw [if_neg h, List.getElem?_drop, show l.length + (i - l.length) = i by omega]
    cases (marksG (l.length + 3))[i]? with
    | none => rfl
    | some x => simp [h]

def overG (x y : List Int) : List Int := fillG (fun i => x.getD i 0) x.length y
theorem overG_length (x y : List Int) : (overG x y).length = y.length := fillG_length _ _ _
theorem overG_given (l : List Int) : overG l (marksG (l.length + 3)) = givenG l := fillG_given l

/-! what a copy comes to -/

theorem given_wrap {l : List Int} (h : l.length ≤ 1048576) : IntKind.i64.wrap (nI (rowLen 1 l) + 3) = ((l.length + 3 : Nat) : Int) := by
  show IntKind.i64.wrap (((l.length : Nat) : Int) + 3) = _
  rw [show ((l.length : Nat) : Int) + 3 = ((l.length + 3 : Nat) : Int) by omega]
  exact by_wrap (by omega)
theorem given_len {l : List Int} : (zerosOf (mulE (((l.length + 3 : Nat) : Int)).toNat 1)).length = l.length + 3 := by
  rw [Int.toNat_natCast, by_mulE, zerosOf, List.length_replicate]
theorem given_make {l : List Int} (h : l.length ≤ 1048576) : (decide (0 ≤ ((l.length + 3 : Nat) : Int)) && (decide (((l.length + 3 : Nat) : Int) ≤ ((l.length + 3 : Nat) : Int)) && (decide (((l.length + 3 : Nat) : Int) ≤ 281474976710656) && decide (((l.length + 3 : Nat) : Int) * 1 ≤ 281474976710656)))) = true := by
  rw [decide_eq_true (by omega), decide_eq_true (by omega), decide_eq_true (by omega), decide_eq_true (by omega)]; rfl
theorem given_lim {n : Nat} (h : n ≤ 1048579) : n.ble limG = true := Nat.ble_eq_true_of_le (by unfold limG; omega)
theorem given_hi (l : List Int) : hiOk (some (nI (rowLen 1 l))) (rowLen 1 (givenG l)) = true := by
  show (decide ((0 : Int) ≤ (l.length : Int)) && decide ((l.length : Int) ≤ (((givenG l).length : Nat) : Int))) = true
  rw [givenG_length, decide_eq_true (by omega), decide_eq_true (by omega)]; rfl
theorem given_sub (l : List Int) : Go.Eng.sub (givenG l) (plusO Off.z 1 none) (mulE (Go.Eng.subN (hiNat (some (nI (rowLen 1 l))) (rowLen 1 (givenG l))) none) 1) = l := givenG_take l
end Go.Eng

/- Each one's inverse, by one inversion. -/
namespace Go.Proofs.Ytcgolglcjfknpaa
open Go Go.Eng
set_option maxRecDepth 100000

/-! rows of rows -/
theorem spl_lt {xs ys : List Int} {a b e : Nat} (h : a + e ≤ b) (hb : b ≤ xs.length) : ((splice xs (.at b) ys).drop a).take e = (xs.drop a).take e := by
  show ((xs.take b ++ (ys ++ xs.drop (b + ys.length))).drop a).take e = _
  rw [List.drop_append_of_le_length (by rw [List.length_take]; omega), List.take_append_of_le_length (by rw [List.length_drop, List.length_take]; omega), List.drop_take, List.take_take]
  congr 1; omega
theorem spl_eq {xs ys : List Int} {b : Nat} (hb : b ≤ xs.length) : ((splice xs (.at b) ys).drop b).take ys.length = ys := by
  show ((xs.take b ++ (ys ++ xs.drop (b + ys.length))).drop b).take ys.length = _
  rw [List.drop_left' (by rw [List.length_take]; omega), List.take_left' rfl]
theorem spl_len {xs ys : List Int} {b : Nat} (hb : b + ys.length ≤ xs.length) : (splice xs (.at b) ys).length = xs.length := by
  show (xs.take b ++ (ys ++ xs.drop (b + ys.length))).length = _
  simp only [List.length_append, List.length_take, List.length_drop]; omega

def headG (g : Nat → List Int) : Nat → List Int
  | 0 => []
  | i + 1 => headG g i ++ g i
def tailG (g : Nat → List Int) (n : Nat) : Nat → List Int
  | 0 => []
  | m + 1 => g (n - (m + 1)) ++ tailG g n m
theorem headG_tail (g : Nat → List Int) (n : Nat) : ∀ m, m ≤ n → headG g (n - m) ++ tailG g n m = headG g n
  | 0, _ => by simp [tailG]
  | m + 1, h => by
    have ih := headG_tail g n m (by omega)
    rw [show n - m = (n - (m + 1)) + 1 by omega, headG] at ih
    rw [tailG, ← List.append_assoc]; exact ih
theorem headG_len {g : Nat → List Int} (hg : ∀ i, (g i).length = 32) : ∀ n, (headG g n).length = n * 32
  | 0 => rfl
  | n + 1 => by rw [headG, List.length_append, headG_len hg n, hg]; omega

/-- the i-th -/
def elF (x : List Int) (i : Nat) : List Int := List.take 32 (List.drop (i * 32) x)
def okF (x : List Int) : Bool := (Nat.beq (x.length % 32) 0 && Nat.ble x.length 1073741824) && x.all fun b => decide (0 ≤ b) && decide (b < 256)
noncomputable def prodF (x : List Int) : Nat → Nat
  | 0 => 1
  | i + 1 => if vB (elF x i) = 0 then prodF x i else mulN (prodF x i) (vB (elF x i))
noncomputable def invF (x : List Int) : List Int := headG (fun i => feN (pw (vB (elF x i)) pm2)) (x.length / 32)

theorem okF_n {x : List Int} (h : okF x = true) : x.length = (x.length / 32) * 32 ∧ x.length ≤ 1073741824 := by
  unfold okF at h
  simp only [Bool.and_eq_true] at h
  have h1 := Nat.eq_of_beq_eq_true h.1.1
  have h2 := Nat.le_of_ble_eq_true h.1.2
  omega
theorem okF_el {x : List Int} (h : okF x = true) {i : Nat} (hi : i < x.length / 32) : okB (elF x i) = true := by
  have hn := okF_n h
  unfold okF at h
  simp only [Bool.and_eq_true] at h
  have h3 := List.all_eq_true.1 h.2
  unfold okB elF
  rw [decide_eq_true (by rw [List.length_take, List.length_drop]; omega), Bool.true_and, List.all_eq_true]
  intro b hb
  exact h3 b (List.mem_of_mem_drop (List.mem_of_mem_take hb))

theorem mul_ne {a b : Nat} (ha : a < p25519) (hb : b < p25519) (ha0 : a ≠ 0) (hb0 : b ≠ 0) : mulN a b ≠ 0 := by
  intro h
  have := mulN_assoc a b (pw b pm2)
  rw [h, mulN_inv hb hb0, mulN_one ha, zero_mulN] at this
  exact ha0 this.symm
theorem prodF_ok (x : List Int) : ∀ i, prodF x i < p25519 ∧ prodF x i ≠ 0
  | 0 => ⟨show 1 < p25519 by decide, show (1 : Nat) ≠ 0 by decide⟩
  | i + 1 => by
    have ih := prodF_ok x i
    rw [prodF]
    split
    · exact ih
    · rename_i h0
      exact ⟨mulN_lt _ _, mul_ne ih.1 (vB_lt _) ih.2 h0⟩
theorem inv_step {x : List Int} {i : Nat} (h0 : vB (elF x i) ≠ 0) : mulN (pw (prodF x (i + 1)) pm2) (prodF x i) = pw (vB (elF x i)) pm2 ∧ mulN (pw (prodF x (i + 1)) pm2) (vB (elF x i)) = pw (prodF x i) pm2 := by
  have hp := prodF_ok x i
  rw [prodF, if_neg h0, pw_mulN]
  constructor
  · rw [mulN_comm (pw (prodF x i) pm2), mulN_assoc, mulN_comm (pw (prodF x i) pm2), mulN_inv hp.1 hp.2, mulN_one (pw_lt _ _)]
  · rw [mulN_assoc, mulN_comm (pw (vB (elF x i)) pm2), mulN_inv (vB_lt _) h0, mulN_one (pw_lt _ _)]

theorem El.len {l : List Int} {v : Nat} (h : El l v) : l.length = 5 := by
  obtain ⟨u0, u1, u2, u3, u4, e, _, _⟩ := h
  rw [e, nats_length]; rfl

theorem inv_up {R : Type} {N : Nat} (k1 : Bool → Int → Int → List Int → List Int → List Int → List Int → Option R) {x : List Int} (x5 : List Int) {n : Nat} (hx : okF x = true) (hn : x.length / 32 = n) :
    ∀ (m i : Nat), i + m = n → ∀ fuel, m < fuel → ∀ x4 x6, El x4 (prodF x i) → x6.length = n * 5 → (∀ j, j < i → El ((x6.drop (j * 5)).take 5) (prodF x j)) →
      ∃ x4' x6', El x4' (prodF x n) ∧ x6'.length = n * 5 ∧ (∀ j, j < n → El ((x6'.drop (j * 5)).take 5) (prodF x j)) ∧ f57_0_lp N k1 fuel (n : Int) (i : Int) x x4 x5 x6 = k1 false (n : Int) (n : Int) x x4' x5 x6' := by
  have hb := okF_n hx
  intro m
  induction m with
  | zero =>
    intro i h fuel hf x4 x6 h4 h6 h7
    obtain ⟨f, rfl⟩ : ∃ f, fuel = f + 1 := ⟨fuel - 1, by omega⟩
    have : i = n := by omega
    subst this
    refine ⟨x4, x6, h4, h6, h7, ?_⟩
    show f57_0_st N (f57_0_lp N _ f) _ _ _ _ _ _ _ = _
    unfold f57_0_st
    rw [show decide (((i : Nat) : Int) < (i : Int)) = false by simp, cond_false]
  | succ m ih =>
    intro i h fuel hf x4 x6 h4 h6 h7
    obtain ⟨f, rfl⟩ : ∃ f, fuel = f + 1 := ⟨fuel - 1, by omega⟩
    have hel := load_vB (okF_el hx (i := i) (by omega))
    have h1 : decide ((i : Int) < (n : Int)) = true := decide_eq_true (by omega)
    have h2 : (decide ((0 : Int) ≤ (i : Int)) && decide ((i : Int) < nI (rowLen 32 x))) = true := by
      show (decide ((0 : Int) ≤ (i : Int)) && decide ((i : Int) < ((x.length / 32 : Nat) : Int))) = true
      rw [hn, decide_eq_true (by omega), h1]; rfl
    have h3 : (decide ((0 : Int) ≤ (i : Int)) && decide ((i : Int) < nI (rowLen 5 x6))) = true := by
      show (decide ((0 : Int) ≤ (i : Int)) && decide ((i : Int) < ((x6.length / 5 : Nat) : Int))) = true
      rw [h6, Nat.mul_div_cancel _ (by decide), decide_eq_true (by omega), h1]; rfl
    have h5 : IntKind.i64.wrap ((i : Int) + 1) = ((i + 1 : Nat) : Int) := by_wrap (n := i + 1) (by omega)
    have hlen4 := h4.len
    have hlen : (splice x6 (.at (i * 5)) x4).length = n * 5 := by rw [spl_len (by omega)]; exact h6
    have hrows : ∀ j, j < i + 1 → El (((splice x6 (.at (i * 5)) x4).drop (j * 5)).take 5) (prodF x j) := by
      intro j hj
      by_cases e : j = i
      · subst e
        have := spl_eq (xs := x6) (ys := x4) (b := j * 5) (by omega)
        rw [hlen4] at this
        rw [this]; exact h4
      · rw [spl_lt (by omega) (by omega)]; exact h7 j (by omega)
    have ht : List.take 32 (List.drop (mulE ((i : Int)).toNat 32) x) = elF x i := by rw [Int.toNat_natCast]; rfl
    have hm5 : mulE ((i : Int)).toNat 5 = i * 5 := by rw [Int.toNat_natCast]; rfl
    obtain ⟨a, b, ra, rb, rc, rd⟩ := ih (i + 1) (by omega) f (by omega) (if vB (elF x i) = 0 then x4 else timesL x4 (loadL (elF x i))) (splice x6 (.at (i * 5)) x4) (by
      rw [prodF]
      split
      · exact h4
      · exact times_N h4 hel) hlen hrows
    refine ⟨a, b, ra, rb, rc, ?_⟩
    show f57_0_st N (f57_0_lp N _ f) _ _ _ _ _ _ _ = _
    unfold f57_0_st
    rw [h1, cond_true, h2, cond_true, h3, cond_true]
    dsimp only
    rw [ht, hm5, h5, fe_num hel, zero_bytes]
    rw [← rd]
    by_cases h0 : vB (elF x i) = 0
    · rw [h0, decide_eq_true rfl, if_pos rfl]; rfl
    · rw [decide_eq_false (fun e => h0 ((feN_eq (vB_lt _) (by decide)).1 e)), if_neg h0]; rfl

theorem zeros_app (a b : Nat) : zerosOf (a + b) = zerosOf a ++ zerosOf b := by unfold zerosOf; exact List.replicate_append_replicate.symm
theorem zeros_len (a : Nat) : (zerosOf a).length = a := by simp [zerosOf]
theorem feN_len (v : Nat) : (feN v).length = 32 := okB_len' (okB_feN v)

theorem inv_down {R : Type} {N : Nat} (k1 : Bool → Int → List Int → List Int → List Int → List Int → Option R) {x : List Int} {x5 : List Int} {n : Nat} (hx : okF x = true) (hn : x.length / 32 = n) (h5l : x5.length = n * 5) (h5 : ∀ j, j < n → El ((x5.drop (j * 5)).take 5) (prodF x j)) :
    ∀ (i m : Nat), i + m = n → ∀ fuel, i < fuel → ∀ x3, El x3 (pw (prodF x i) pm2) →
      ∃ x3', f57_2_lp N k1 fuel ((i : Int) - 1) x x3 (zerosOf (i * 32) ++ tailG (fun i => feN (pw (vB (elF x i)) pm2)) n m) x5 = k1 false (-1) x x3' (invF x) x5 := by
  have hb := okF_n hx
  intro i
  induction i with
  | zero =>
    intro m h fuel hf x3 h3
    obtain ⟨f, rfl⟩ : ∃ f, fuel = f + 1 := ⟨fuel - 1, by omega⟩
    refine ⟨x3, ?_⟩
    show f57_2_st N (f57_2_lp N _ f) _ _ _ _ _ _ = _
    unfold f57_2_st
    have hm : m = n := by omega
    subst hm
    have ht := headG_tail (fun i => feN (pw (vB (elF x i)) pm2)) m m (Nat.le_refl _)
    rw [Nat.sub_self] at ht
    rw [show decide ((((0 : Nat) : Int) - 1) ≥ 0) = false from by decide, cond_false]
    unfold invF
    rw [hn, ← ht]; rfl
  | succ i ih =>
    intro m h fuel hf x3 h3
    obtain ⟨f, rfl⟩ : ∃ f, fuel = f + 1 := ⟨fuel - 1, by omega⟩
    have hok := okF_el hx (i := i) (by omega)
    have hel := load_vB hok
    have hi : ((i + 1 : Nat) : Int) - 1 = (i : Int) := by omega
    rw [hi]
    have h1 : decide ((i : Int) ≥ 0) = true := decide_eq_true (by omega)
    have h2 : decide ((i : Int) < nI (rowLen 32 x)) = true := by
      show decide ((i : Int) < ((x.length / 32 : Nat) : Int)) = true
      rw [hn, decide_eq_true (by omega)]
    have h4 : decide ((i : Int) < nI (rowLen 5 x5)) = true := by
      show decide ((i : Int) < ((x5.length / 5 : Nat) : Int)) = true
      rw [h5l, Nat.mul_div_cancel _ (by decide), decide_eq_true (by omega)]
    have hT : (tailG (fun i => feN (pw (vB (elF x i)) pm2)) n m).length = m * 32 := by
      have e := congrArg List.length (headG_tail (fun i => feN (pw (vB (elF x i)) pm2)) n m (by omega))
      rw [List.length_append, headG_len (fun i => feN_len _), headG_len (fun i => feN_len _)] at e
      omega
    have h6 : decide ((i : Int) < nI (rowLen 32 (zerosOf ((i + 1) * 32) ++ tailG (fun i => feN (pw (vB (elF x i)) pm2)) n m))) = true := by
      show decide ((i : Int) < (((zerosOf ((i + 1) * 32) ++ tailG (fun i => feN (pw (vB (elF x i)) pm2)) n m).length / 32 : Nat) : Int)) = true
      rw [List.length_append, zeros_len, hT, decide_eq_true (by omega)]
    have h7 : IntKind.i64.wrap ((i : Int) - 1) = (i : Int) - 1 := wrapI (by omega) (by omega)
    have ht : List.take 32 (List.drop (mulE ((i : Int)).toNat 32) x) = elF x i := by rw [Int.toNat_natCast]; rfl
    have hm5 : mulE ((i : Int)).toNat 5 = i * 5 := by rw [Int.toNat_natCast]; rfl
    have hm32 : mulE ((i : Int)).toNat 32 = i * 32 := by rw [Int.toNat_natCast]; rfl
    have hz : zerosOf ((i + 1) * 32) = zerosOf (i * 32) ++ zerosOf 32 := by rw [Nat.succ_mul]; exact zeros_app _ _
    have htl : tailG (fun i => feN (pw (vB (elF x i)) pm2)) n (m + 1) = feN (pw (vB (elF x i)) pm2) ++ tailG (fun i => feN (pw (vB (elF x i)) pm2)) n m := by
      rw [tailG, show n - (m + 1) = i by omega]
    by_cases h0 : vB (elF x i) = 0
    · obtain ⟨r, hr⟩ := ih (m + 1) (by omega) f (by omega) x3 (by rw [prodF, if_pos h0] at h3; exact h3)
      refine ⟨r, ?_⟩
      show f57_2_st N (f57_2_lp N _ f) _ _ _ _ _ _ = _
      unfold f57_2_st
      rw [h1, cond_true, Bool.true_and, h2, cond_true]
      dsimp only
      rw [ht, h7, fe_num hel, zero_bytes, h0, decide_eq_true rfl]
      rw [htl, h0, pw_zero, ← zero_bytes] at hr
      rw [← hr, hz, List.append_assoc]; rfl
    · obtain ⟨s1, s2⟩ := inv_step h0
      obtain ⟨r, hr⟩ := ih (m + 1) (by omega) f (by omega) (timesL x3 (loadL (elF x i))) (by rw [← s2]; exact times_N h3 hel)
      refine ⟨r, ?_⟩
      show f57_2_st N (f57_2_lp N _ f) _ _ _ _ _ _ = _
      unfold f57_2_st
      rw [h1, cond_true, Bool.true_and, h2, cond_true, Bool.true_and, h4, Bool.true_and, h6]
      dsimp only
      rw [ht, h7, hm5, hm32, fe_num hel, zero_bytes, decide_eq_false (fun e => h0 ((feN_eq (vB_lt _) (by decide)).1 e))]
      rw [fe_num (times_N h3 (h5 i (by omega))), s1]
      have hsp : splice (zerosOf ((i + 1) * 32) ++ tailG (fun i => feN (pw (vB (elF x i)) pm2)) n m) (Off.at (i * 32)) (feN (pw (vB (elF x i)) pm2)) = zerosOf (i * 32) ++ tailG (fun i => feN (pw (vB (elF x i)) pm2)) n (m + 1) := by
        show List.take (i * 32) _ ++ (_ ++ List.drop (i * 32 + (feN (pw (vB (elF x i)) pm2)).length) _) = _
        rw [htl, feN_len, hz, List.append_assoc, List.take_left' (zeros_len _), ← List.drop_drop, List.drop_left' (zeros_len _), List.drop_left' (zeros_len _)]
      rw [hsp]
      exact hr

theorem f57_num {R : Type} {x : List Int} (hx : okF x = true) (k : List DV → Option R) : f57_raw (x.length / 32 + 1) x k = k [.lst .u8 32 (invF x)] := by
  have hb := okF_n hx
  unfold f57_raw
  dsimp only
  generalize hn : x.length / 32 = n
  have hl : rowLen 32 x = n := hn
  rw [hl]
  have g1 : (decide (0 ≤ nI n) && (decide (nI n ≤ nI n) && (decide (nI n ≤ 281474976710656) && decide (nI n * 32 ≤ 281474976710656)))) = true := by
    have : nI n ≤ 33554432 := by show (n : Int) ≤ 33554432; omega
    have h0 : 0 ≤ nI n := by show (0 : Int) ≤ (n : Int); omega
    rw [decide_eq_true (by omega), decide_eq_true (by omega), decide_eq_true (by omega), decide_eq_true (by omega)]; rfl
  have g2 : (decide (0 ≤ nI n) && (decide (nI n ≤ nI n) && (decide (nI n ≤ 281474976710656) && decide (nI n * 40 ≤ 281474976710656)))) = true := by
    have : nI n ≤ 33554432 := by show (n : Int) ≤ 33554432; omega
    have h0 : 0 ≤ nI n := by show (0 : Int) ≤ (n : Int); omega
    rw [decide_eq_true (by omega), decide_eq_true (by omega), decide_eq_true (by omega), decide_eq_true (by omega)]; rfl
  rw [g1, g2, cond_true, cond_true]
  have e1 : mulE (nI n).toNat 32 = n * 32 := by rw [show (nI n).toNat = n from Int.toNat_natCast n]; rfl
  have e2 : mulE (nI n).toNat 5 = n * 5 := by rw [show (nI n).toNat = n from Int.toNat_natCast n]; rfl
  rw [e1, e2]
  have hone : El ((List.replicate 5 (0 : Int)).set 0 1) (prodF x 0) := ⟨1, 0, 0, 0, 0, rfl, by unfold Wid; decide, show val5 1 0 0 0 0 % p25519 = 1 by decide⟩
  obtain ⟨a, b, ra, rb, rc, rd⟩ := inv_up (N := n + 1) (fun w1_1 w1_2 w1_3 w1_4 w1_5 w1_6 w1_7 => f57_2_lp (n + 1) (fun w3_1 w3_2 w3_3 w3_4 w3_5 w3_6 => k [DV.lst IntKind.u8 32 w3_5]) (n + 1) (IntKind.i64.wrap (nI (rowLen 32 w1_4) - 1)) w1_4 (inverseL w1_5) w1_6 w1_7) (zerosOf (n * 32)) hx hn n 0 (by omega) (n + 1) (by omega) _ (zerosOf (n * 5)) hone (zeros_len _) (fun j hj => absurd hj (by omega))
  refine rd.trans ?_
  have hn2 : nI n ≤ 33554432 := by show (n : Int) ≤ 33554432; omega
  have hn0 : 0 ≤ nI n := by show (0 : Int) ≤ (n : Int); omega
  rw [hl, wrapI (a := nI n - 1) (by omega) (by omega)]
  obtain ⟨r, hr⟩ := inv_down (N := n + 1) (fun w3_1 w3_2 w3_3 w3_4 w3_5 w3_6 => k [DV.lst IntKind.u8 32 w3_5]) hx hn rb rc n 0 (by omega) (n + 1) (by omega) (inverseL a) (inverse_el ra)
  rw [show zerosOf (n * 32) ++ tailG (fun i => feN (pw (vB (elF x i)) pm2)) n 0 = zerosOf (n * 32) by simp [tailG]] at hr
  exact hr

/-! the document's -/
theorem ref_inv {R : Type} {N : Nat} (k1 : Bool → Int → List Int → List Int → Option R) {x : List Int} {n : Nat} (hx : okF x = true) (hn : x.length / 32 = n) :
    ∀ (m i : Nat), i + m = n → ∀ fuel, m < fuel → f59_0_lp N k1 fuel (i : Int) (headG (fun i => feN (pw (vB (elF x i)) pm2)) i) x = k1 false (n : Int) (invF x) x := by
  have hb := okF_n hx
  intro m
  induction m with
  | zero =>
    intro i h fuel hf
    obtain ⟨f, rfl⟩ : ∃ f, fuel = f + 1 := ⟨fuel - 1, by omega⟩
    have : i = n := by omega
    subst this
    show f59_0_st N (f59_0_lp N _ f) _ _ _ _ = _
    unfold f59_0_st
    have h1 : decide ((i : Int) < nI (rowLen 32 x)) = false := by
      show decide ((i : Int) < ((x.length / 32 : Nat) : Int)) = false
      rw [hn]; simp
    rw [h1, cond_false, invF, hn]
  | succ m ih =>
    intro i h fuel hf
    obtain ⟨f, rfl⟩ : ∃ f, fuel = f + 1 := ⟨fuel - 1, by omega⟩
    have hok := okF_el hx (i := i) (by omega)
    have h1 : decide ((i : Int) < nI (rowLen 32 x)) = true := by
      show decide ((i : Int) < ((x.length / 32 : Nat) : Int)) = true
      rw [hn, decide_eq_true (by omega)]
    have h5 : IntKind.i64.wrap ((i : Int) + 1) = ((i + 1 : Nat) : Int) := by_wrap (n := i + 1) (by omega)
    have ht : List.take 32 (List.drop (mulE ((i : Int)).toNat 32) x) = elF x i := by rw [Int.toNat_natCast]; rfl
    show f59_0_st N (f59_0_lp N _ f) _ _ _ _ = _
    unfold f59_0_st
    rw [h1, cond_true, decide_eq_true (show (0 : Int) ≤ (i : Int) by omega), Bool.true_and, cond_true]
    dsimp only
    rw [ht, hok, cond_true, h5]
    have hsp : splice (zerosOf (1 * 32)) (Off.at (0 * 32)) (feN (pw (vB (elF x i)) pm2)) = feN (pw (vB (elF x i)) pm2) := by
      show List.take 0 _ ++ (_ ++ List.drop (0 + (feN (pw (vB (elF x i)) pm2)).length) _) = _
      rw [feN_len, List.take_zero, List.nil_append, List.drop_of_length_le (by rw [zeros_len]; omega), List.append_nil]
    rw [hsp]
    have hlen : rowLen 32 (headG (fun i => feN (pw (vB (elF x i)) pm2)) i) + rowLen 32 (feN (pw (vB (elF x i)) pm2)) = i + 1 := by
      show (headG (fun i => feN (pw (vB (elF x i)) pm2)) i).length / 32 + (feN (pw (vB (elF x i)) pm2)).length / 32 = i + 1
      rw [headG_len (fun i => feN_len _), feN_len]; omega
    rw [hlen, show ((2 * (i + 1) + 192) * 32).ble big48 = true from Nat.ble_eq_true_of_le (by unfold big48; omega), show (i + 1).ble big48 = true from Nat.ble_eq_true_of_le (by unfold big48; omega)]
    exact ih (i + 1) (by omega) f (by omega)

theorem f59_num {R : Type} {x : List Int} (hx : okF x = true) (k : List DV → Option R) : f59_raw (x.length / 32 + 1) x k = k [.lst .u8 32 (invF x)] :=
  ref_inv (N := x.length / 32 + 1) (fun w0_1 w0_2 w0_3 w0_4 => k [DV.lst IntKind.u8 32 w0_3]) hx rfl (x.length / 32) 0 (by omega) (x.length / 32 + 1) (by omega)

noncomputable def I57 : (R : Type) → List DV → (List DV → Option R) → Option R := fun _ ds k => match ds with
  | [.lst .u8 32 x] => bif okF x then k [.lst .u8 32 (invF x)] else none
  | _ => none
theorem c57 : Contract Try.prog 57 { sig := S57, impl := I57 } := by
  refine Contract.refine fun R ds k r h => ?_
  unfold I57 at h
  split at h
  · rename_i x
    refine ⟨_, f57_contract (x.length / 32 + 1) GP_ok, ?_⟩
    cases hc : okF x with
    | true => rw [hc, cond_true] at h; rw [f57_raw_eq, f57_num hc]; exact h
    | false => rw [hc] at h; cases h
  · exact (Option.some_ne_none _ h.symm).elim
noncomputable def I59 : (R : Type) → List DV → (List DV → Option R) → Option R := fun _ ds k => match ds with
  | [.lst .u8 32 x] => bif okF x then k [.lst .u8 32 (invF x)] else none
  | _ => none
theorem c59 : Contract Try.prog 59 { sig := S59, impl := I59 } := by
  refine Contract.refine fun R ds k r h => ?_
  unfold I59 at h
  split at h
  · rename_i x
    refine ⟨_, f59_contract (x.length / 32 + 1) GP_ok, ?_⟩
    cases hc : okF x with
    | true => rw [hc, cond_true] at h; rw [f59_raw_eq, f59_num hc]; exact h
    | false => rw [hc] at h; cases h
  · exact (Option.some_ne_none _ h.symm).elim
end Go.Proofs.Ytcgolglcjfknpaa

/- Marks, copies, and the same, of rows. -/
namespace Go.Proofs.Ytcgolglcjfknpaa
open Go Go.Eng
set_option maxRecDepth 100000

def markR (i j : Int) : List Int :=
  (((((List.replicate 32 (0 : Int)).set 0 (IntKind.u8.wrap i)).set 1 (IntKind.u8.wrap (shrI IntKind.i64 i 8))).set 2 (IntKind.u8.wrap j)).set 3 (IntKind.u8.wrap (shrI IntKind.i64 j 8))).set 4 77
noncomputable def markF : Int → Int → List Int := (stk markR).1
theorem markF_def (i j : Int) : markF i j = markR i j := congrFun (congrFun (stk markR).2 i) j
theorem markF_len (i j : Int) : (markF i j).length = 32 := by rw [markF_def]; simp [markR]
noncomputable def I101 : (R : Type) → List DV → (List DV → Option R) → Option R := fun _ ds k => match ds with
  | [.v (.one (.int .i64 i)), .v (.one (.int .i64 j))] => k [.v (.one (.ints .u8 32 (markF i j)))]
  | _ => none
theorem c101 : Contract Try.prog 101 { sig := S101, impl := I101 } := by
  refine Contract.refine fun R ds k r h => ⟨_, f101_contract 0 ctxOk_nil, ?_⟩
  unfold I101 at h
  split at h
  · rw [f101_raw_eq]; rw [markF_def] at h; exact h
  · cases h

/-- so many rows of 32 -/
def okR (x : List Int) : Bool := Nat.beq (x.length % 32) 0 && Nat.ble x.length 1073742000
theorem okR_n {x : List Int} (h : okR x = true) : x.length = (x.length / 32) * 32 ∧ x.length ≤ 1073742000 := by
  unfold okR at h
  simp only [Bool.and_eq_true] at h
  have h1 := Nat.eq_of_beq_eq_true h.1
  have h2 := Nat.le_of_ble_eq_true h.2
  omega
theorem okR_of {x : List Int} {n : Nat} (h : x.length = n * 32) (hn : n ≤ 33554437) : okR x = true := by
  unfold okR
  rw [h, Nat.mul_mod_left, show Nat.ble (n * 32) 1073742000 = true from Nat.ble_eq_true_of_le (by omega)]; rfl

noncomputable def I60 : (R : Type) → List DV → (List DV → Option R) → Option R := fun _ ds k => match ds with
  | [.lst .u8 32 a] => bif okR a then k [.lst .u8 32 a] else none
  | _ => none
theorem c60 : Contract Try.prog 60 { sig := S60, impl := I60 } := by
  refine Contract.refine fun R ds k r h => ⟨_, f60_contract 0 ctxOk_nil, ?_⟩
  unfold I60 at h
  split at h
  · rename_i a
    rw [f60_raw_eq]
    cases hb : okR a with
    | true =>
      rw [hb] at h
      have hb := okR_n hb
      unfold f60_raw
      have e : rowLen 32 a = a.length / 32 := rfl
      rw [e, show ((a.length / 32 * 32).ble big48) = true from Nat.ble_eq_true_of_le (by unfold big48; omega), show ((a.length / 32).ble big48) = true from Nat.ble_eq_true_of_le (by unfold big48; omega)]
      exact h
    | false => rw [hb] at h; cases h
  · cases h

theorem drop_row {a : List Int} {i : Nat} : a.drop (i * 32) = List.take 32 (List.drop (i * 32) a) ++ a.drop ((i + 1) * 32) := by
  rw [Nat.succ_mul, ← List.drop_drop, List.take_append_drop]

theorem same_loopF {R : Type} {N : Nat} (k1 : Bool → Option R) (a b : List Int) {n : Nat} (ha : a.length = n * 32) (hb : b.length = n * 32) (hn : n ≤ 33554437) :
    ∀ (m i : Nat), i + m = n → ∀ fuel, m < fuel → f56_0_lp N (fun y _ _ _ _ _ => k1 y) (fun _ _ _ _ => k1 true) fuel (i : Int) a b = k1 (decide (a.drop (i * 32) = b.drop (i * 32))) := by
  have ea : rowLen 32 a = n := by show a.length / 32 = n; omega
  have eb : rowLen 32 b = n := by show b.length / 32 = n; omega
  intro m
  induction m with
  | zero =>
    intro i h fuel hf
    obtain ⟨f, rfl⟩ : ∃ f, fuel = f + 1 := ⟨fuel - 1, by omega⟩
    have : i = n := by omega
    subst this
    show f56_0_st N (f56_0_lp N _ _ f) _ _ _ a b = _
    unfold f56_0_st
    rw [ea, show decide (((i : Nat) : Int) < nI i) = false by simp, cond_false]
    rw [List.drop_of_length_le (by omega), List.drop_of_length_le (by omega)]
    simp
  | succ m ih =>
    intro i h fuel hf
    obtain ⟨f, rfl⟩ : ∃ f, fuel = f + 1 := ⟨fuel - 1, by omega⟩
    show f56_0_st N (f56_0_lp N _ _ f) _ _ _ a b = _
    unfold f56_0_st
    have h1 : decide ((i : Int) < nI n) = true := decide_eq_true (show (i : Int) < (n : Int) by omega)
    have h4 : IntKind.i64.wrap ((i : Int) + 1) = ((i + 1 : Nat) : Int) := by_wrap (n := i + 1) (by omega)
    have hm32 : mulE ((i : Int)).toNat 32 = i * 32 := by rw [Int.toNat_natCast]; rfl
    rw [ea, eb, h1, decide_eq_true (show (0 : Int) ≤ (i : Int) by omega), Bool.true_and, cond_true]
    dsimp only
    have hd : decide (a.drop (i * 32) = b.drop (i * 32)) = decide (List.take 32 (List.drop (i * 32) a) ++ a.drop ((i + 1) * 32) = List.take 32 (List.drop (i * 32) b) ++ b.drop ((i + 1) * 32)) := by rw [← drop_row, ← drop_row]
    rw [h4, hm32, ih (i + 1) (by omega) f (by omega), hd]
    by_cases hx : List.take 32 (List.drop (i * 32) a) = List.take 32 (List.drop (i * 32) b)
    · rw [hx, decide_eq_true rfl]
      simp only [Bool.not_true, cond_true, cond_false]
      congr 1
      exact decide_eq_decide.2 ⟨fun e => by rw [e], fun e => List.append_cancel_left e⟩
    · rw [decide_eq_false hx]
      have : decide (List.take 32 (List.drop (i * 32) a) ++ List.drop ((i + 1) * 32) a = List.take 32 (List.drop (i * 32) b) ++ List.drop ((i + 1) * 32) b) = false := by
        refine decide_eq_false fun e => hx ?_
        have := List.append_inj_left e (by simp only [List.length_take, List.length_drop]; omega)
        exact this
      rw [this]; rfl

noncomputable def I56 : (R : Type) → List DV → (List DV → Option R) → Option R := fun _ ds k => match ds with
  | [.lst .u8 32 a, .lst .u8 32 b] => bif okR a && okR b then k [.v (.one (.bool (decide (a = b))))] else none
  | _ => none
theorem c56 : Contract Try.prog 56 { sig := S56, impl := I56 } := by
  refine Contract.refine fun R ds k r h => ?_
  unfold I56 at h
  split at h
  · rename_i a b
    refine ⟨_, f56_contract (a.length / 32 + 1) ctxOk_nil, ?_⟩
    rw [f56_raw_eq]
    cases hc : okR a && okR b with
    | true =>
      rw [hc] at h
      rw [Bool.and_eq_true] at hc
      obtain ⟨a1, a2⟩ := okR_n hc.1
      obtain ⟨b1, b2⟩ := okR_n hc.2
      unfold f56_raw
      have ea : rowLen 32 a = a.length / 32 := rfl
      have eb : rowLen 32 b = b.length / 32 := rfl
      by_cases hl : a.length / 32 = b.length / 32
      · rw [show (nI (rowLen 32 a) != nI (rowLen 32 b)) = false by rw [ea, eb, hl]; simp]
        have := same_loopF (N := a.length / 32 + 1) (fun y => k [DV.v (SV.one (At.bool y))]) a b a1 (by rw [hl]; exact b1) (by omega) (a.length / 32) 0 (by omega) (a.length / 32 + 1) (by omega)
        exact this.trans (by simpa using h)
      · rw [show (nI (rowLen 32 a) != nI (rowLen 32 b)) = true by rw [ea, eb, bne_iff_ne]; exact fun e => hl (Int.ofNat_inj.1 e)]
        rw [show decide (a = b) = false by simp; intro e; exact hl (by rw [e])] at h
        exact h
    | false => rw [hc] at h; cases h
  · exact (Option.some_ne_none _ h.symm).elim

noncomputable def QF0 : Ctx := (101, { sig := S101, impl := I101 }) :: (60, { sig := S60, impl := I60 }) :: (56, { sig := S56, impl := I56 }) :: []
theorem QF0_ok : CtxOk Try.prog QF0 := ctxOk_cons ok101 rfl c101 (ctxOk_cons ok60 rfl c60 (ctxOk_cons ok56 rfl c56 ctxOk_nil))
end Go.Proofs.Ytcgolglcjfknpaa

/- What (*rime/rimeplain.Given).Fes comes to. MADE BY PROGRAM (wip/tools/mkfn.py, EngGen.lean). -/
namespace Go.Proofs.Ytcgolglcjfknpaa
open Go Go.Eng
set_option maxRecDepth 100000
set_option linter.unusedVariables false

def f58_0_sh : Shp := { n := 61, lo := 2, slots := [(0, .one (.fix (At.ptr 0 0 Off.z 30))), (1, .one (.fix (At.own 1))), (5, .one (.fix (At.own 11))), (6, .one (.int IntKind.i64))], items := [(1, .view IntKind.u8 32), (11, .row IntKind.u8 32)] }
def f58_0_ex1 : Shp := { n := 61, lo := 2, slots := [(15, .one (.bool)), (0, .one (.fix (At.ptr 0 0 Off.z 30))), (1, .one (.fix (At.own 1))), (5, .one (.fix (At.own 11))), (6, .one (.int IntKind.i64))], items := [(1, .view IntKind.u8 32), (11, .row IntKind.u8 32)] }
noncomputable def f58_0_st {R : Type} (N : Nat) (self : Int → List Int → List Int → Option R) (k1 : Bool → Int → List Int → List Int → Option R) (x1 : Int) (x2 : List Int) (x3 : List Int) : Option R :=
 bif Decidable.decide (x1 < nI (rowLen 32 x3)) then
 bif Decidable.decide (0 ≤ x1) && Decidable.decide (x1 < nI (rowLen 32 x3)) then
 let v0 : Int := IntKind.i64.wrap (x1 + 1);
 let v1 : List Int := splice x3 (Off.at (mulE x1.toNat 32)) (markF 987 x1);
 self v0 x2 v1
 else Option.none
else k1 (Decidable.decide (x1 < nI (rowLen 32 x3))) x1 x2 x3
noncomputable def f58_0_lp {R : Type} (N : Nat) (k1 : Bool → Int → List Int → List Int → Option R) : Nat → Int → List Int → List Int → Option R
 | 0, _, _, _ => none
 | n + 1, x1, x2, x3 => f58_0_st N (f58_0_lp N k1 n) k1 x1 x2 x3
noncomputable def f58_0_F (N : Nat) : (R : Type) → List Leaf → (X → AS → Option R) → Option R := fun _ ls K => match ls with
 | [.i x1, .l x2, .l x3] => f58_0_lp N (fun y1 y2 y3 y4 => K (X.normal) (fill f58_0_ex1 [.b y1, .i y2, .l y3, .l y4])) N x1 x2 x3
 | _ => none
def f58_2_sh : Shp := { n := 61, lo := 2, slots := [(0, .one (.fix (At.ptr 0 0 Off.z 30))), (1, .one (.fix (At.own 1))), (5, .one (.fix (At.own 11))), (7, .one (.int IntKind.i64))], items := [(1, .view IntKind.u8 32), (11, .row IntKind.u8 32)] }
def f58_2_ex1 : Shp := { n := 61, lo := 2, slots := [(26, .one (.bool)), (0, .one (.fix (At.ptr 0 0 Off.z 30))), (1, .one (.fix (At.own 1))), (5, .one (.fix (At.own 11))), (7, .one (.int IntKind.i64))], items := [(1, .view IntKind.u8 32), (11, .row IntKind.u8 32)] }
noncomputable def f58_2_st {R : Type} (N : Nat) (self : Int → List Int → List Int → Option R) (k1 : Bool → Int → List Int → List Int → Option R) (x1 : Int) (x2 : List Int) (x3 : List Int) : Option R :=
 bif Decidable.decide (x1 < nI (rowLen 32 x2)) then
 bif Decidable.decide (0 ≤ x1) && Decidable.decide (x1 < nI (rowLen 32 x2)) then
 bif Decidable.decide (0 ≤ x1) && Decidable.decide (x1 < nI (rowLen 32 x3)) then
 let v0 : Int := IntKind.i64.wrap (x1 + 1);
 let v1 : List Int := splice x3 (Off.at (mulE x1.toNat 32)) (List.take 32 (List.drop (mulE x1.toNat 32) x2));
 self v0 x2 v1
 else Option.none
 else Option.none
else k1 (Decidable.decide (x1 < nI (rowLen 32 x2))) x1 x2 x3
noncomputable def f58_2_lp {R : Type} (N : Nat) (k1 : Bool → Int → List Int → List Int → Option R) : Nat → Int → List Int → List Int → Option R
 | 0, _, _, _ => none
 | n + 1, x1, x2, x3 => f58_2_st N (f58_2_lp N k1 n) k1 x1 x2 x3
noncomputable def f58_2_F (N : Nat) : (R : Type) → List Leaf → (X → AS → Option R) → Option R := fun _ ls K => match ls with
 | [.i x1, .l x2, .l x3] => f58_2_lp N (fun y1 y2 y3 y4 => K (X.normal) (fill f58_2_ex1 [.b y1, .i y2, .l y3, .l y4])) N x1 x2 x3
 | _ => none
noncomputable def f58_raw {R : Type} (N : Nat) (x : List Int) (k : List DV → Option R) : Option R :=
 let v0 : Int := IntKind.i64.wrap (nI (rowLen 32 x) + 3);
bif Decidable.decide (0 ≤ v0) && (Decidable.decide (v0 ≤ v0) && (Decidable.decide (v0 ≤ 281474976710656) && Decidable.decide (v0 * 32 ≤ 281474976710656))) then f58_0_lp N (fun w1_1 w1_2 w1_3 w1_4 => f58_2_lp N (fun w2_1 w2_2 w2_3 w2_4 => Option.none) N 0 w1_3 w1_4) N 0 x (zerosOf (mulE v0.toNat 32)) else Option.none


noncomputable def E58 (N : Nat) : Env := { Θ := Th2, Γ := QF0, K := K58, ν := N58, fuel := 0, lp := [(0, mkL N58_0 f58_0_sh (f58_0_F N)), (2, mkL N58_2 f58_2_sh (f58_2_F N))] }

theorem f58_0_st_eq {R : Type} (N : Nat) (K : X → AS → Option R) (n : Nat) (x1 : Int) (x2 : List Int) (x3 : List Int) : roundsOf (E58 N) N58_0 0 B58_0 K (n + 1) (fill f58_0_sh [.i x1, .l x2, .l x3]) = f58_0_st N (fun x1 x2 x3 => roundsOf (E58 N) N58_0 0 B58_0 K n (fill f58_0_sh [.i x1, .l x2, .l x3])) (fun y1 y2 y3 y4 => K (X.normal) (fill f58_0_ex1 [.b y1, .i y2, .l y3, .l y4])) x1 x2 x3 := by kernel_rfl
theorem f58_0_lp_eq {R : Type} (N : Nat) (K : X → AS → Option R) : ∀ (n : Nat) (x1 : Int) (x2 : List Int) (x3 : List Int), roundsOf (E58 N) N58_0 0 B58_0 K n (fill f58_0_sh [.i x1, .l x2, .l x3]) = f58_0_lp N (fun y1 y2 y3 y4 => K (X.normal) (fill f58_0_ex1 [.b y1, .i y2, .l y3, .l y4])) n x1 x2 x3
  | 0, _, _, _ => rfl
  | n + 1, x1, x2, x3 => by
    rw [f58_0_st_eq, f58_0_lp, show (fun x1 x2 x3 => roundsOf (E58 N) N58_0 0 B58_0 K n (fill f58_0_sh [.i x1, .l x2, .l x3])) = f58_0_lp N (fun y1 y2 y3 y4 => K (X.normal) (fill f58_0_ex1 [.b y1, .i y2, .l y3, .l y4])) n from by funext x1 x2 x3; exact f58_0_lp_eq N K n x1 x2 x3]
theorem f58_0_ok (N : Nat) (hlp : LoopsOk Try.prog (E58 N).lp B58_0) (hΓ : CtxOk Try.prog (E58 N).Γ) : LoopOk Try.prog (mkL N58_0 f58_0_sh (f58_0_F N)) 0 B58_0 := by
  refine loopOk_of (E := E58 N) thOk2 hΓ mixed hlp ?_
  intro R ls K r h
  unfold f58_0_F at h
  split at h
  · exact ⟨N, by rw [f58_0_lp_eq]; exact h⟩
  · cases h
theorem f58_2_st_eq {R : Type} (N : Nat) (K : X → AS → Option R) (n : Nat) (x1 : Int) (x2 : List Int) (x3 : List Int) : roundsOf (E58 N) N58_2 2 B58_2 K (n + 1) (fill f58_2_sh [.i x1, .l x2, .l x3]) = f58_2_st N (fun x1 x2 x3 => roundsOf (E58 N) N58_2 2 B58_2 K n (fill f58_2_sh [.i x1, .l x2, .l x3])) (fun y1 y2 y3 y4 => K (X.normal) (fill f58_2_ex1 [.b y1, .i y2, .l y3, .l y4])) x1 x2 x3 := by kernel_rfl
theorem f58_2_lp_eq {R : Type} (N : Nat) (K : X → AS → Option R) : ∀ (n : Nat) (x1 : Int) (x2 : List Int) (x3 : List Int), roundsOf (E58 N) N58_2 2 B58_2 K n (fill f58_2_sh [.i x1, .l x2, .l x3]) = f58_2_lp N (fun y1 y2 y3 y4 => K (X.normal) (fill f58_2_ex1 [.b y1, .i y2, .l y3, .l y4])) n x1 x2 x3
  | 0, _, _, _ => rfl
  | n + 1, x1, x2, x3 => by
    rw [f58_2_st_eq, f58_2_lp, show (fun x1 x2 x3 => roundsOf (E58 N) N58_2 2 B58_2 K n (fill f58_2_sh [.i x1, .l x2, .l x3])) = f58_2_lp N (fun y1 y2 y3 y4 => K (X.normal) (fill f58_2_ex1 [.b y1, .i y2, .l y3, .l y4])) n from by funext x1 x2 x3; exact f58_2_lp_eq N K n x1 x2 x3]
theorem f58_2_ok (N : Nat) (hlp : LoopsOk Try.prog (E58 N).lp B58_2) (hΓ : CtxOk Try.prog (E58 N).Γ) : LoopOk Try.prog (mkL N58_2 f58_2_sh (f58_2_F N)) 2 B58_2 := by
  refine loopOk_of (E := E58 N) thOk2 hΓ mixed hlp ?_
  intro R ls K r h
  unfold f58_2_F at h
  split at h
  · exact ⟨N, by rw [f58_2_lp_eq]; exact h⟩
  · cases h

theorem lok58_2 (N : Nat) (hΓ : CtxOk Try.prog QF0) : LoopOk Try.prog (mkL N58_2 f58_2_sh (f58_2_F N)) 2 B58_2 := f58_2_ok N (loopsOk_of (l := []) (by kernel_rfl) trivial) hΓ
theorem lok58_0 (N : Nat) (hΓ : CtxOk Try.prog QF0) : LoopOk Try.prog (mkL N58_0 f58_0_sh (f58_0_F N)) 0 B58_0 := f58_0_ok N (loopsOk_of (l := []) (by kernel_rfl) trivial) hΓ
theorem f58_loops (N : Nat) (hΓ : CtxOk Try.prog QF0) : LoopsOk Try.prog (E58 N).lp B58 := loopsOk_of (l := [(0, B58_0), (2, B58_2)]) (by kernel_rfl) (allOk_cons (L := mkL N58_0 f58_0_sh (f58_0_F N)) rfl (lok58_0 N hΓ) (allOk_cons (L := mkL N58_2 f58_2_sh (f58_2_F N)) rfl (lok58_2 N hΓ) trivial))
theorem f58_raw_eq {R : Type} (N : Nat) (x : List Int) (k : List DV → Option R) : exec (E58 N) B58 ({ n := 61, lo := 2, tmps := [(0, .s (.one (.ptr 0 0 .z 30))), (1, .s (.one (.own 1)))], items := [(1, .view .u8 32 x)] }) (retK Th2 { ps := [], rs := [.val] } [] R58 k) = f58_raw N x k := by kernel_rfl
end Go.Proofs.Ytcgolglcjfknpaa

/- What rime/rimeplain.markBytes comes to. MADE BY PROGRAM (wip/tools/mkfn.py, EngGen.lean). -/
namespace Go.Proofs.Ytcgolglcjfknpaa
open Go Go.Eng
set_option maxRecDepth 100000
set_option linter.unusedVariables false

noncomputable def f78_raw {R : Type} (N : Nat) (i : Int) (j : Int) (k : List DV → Option R) : Option R :=
 let v0 : Int := IntKind.i64.wrap (i * 31);
let v1 : Int := IntKind.i64.wrap (j * 7);
let v2 : Int := IntKind.i64.wrap (v0 + v1);
let v3 : Int := IntKind.i64.wrap (v2 + 5);
let v4 : Int := IntKind.u8.wrap v3;
k [DV.v (SV.one (At.int IntKind.u8 v4))]


noncomputable def E78 (N : Nat) : Env := { Θ := Th, Γ := [], K := K78, ν := N78, fuel := 0, lp := [] }


theorem f78_contract (N : Nat) (hΓ : CtxOk Try.prog []) : Contract Try.prog 78 { sig := S78, impl := fun _ ds k => call (E78 N) S78 12 B78 R78 ds k } :=
  call_contract (E := E78 N) thOk hΓ mixed ok78.look ok78.body ok78.n ok78.rv ok78.name rfl (by decide) (loopsOk_of (l := []) (by kernel_rfl) trivial)
theorem f78_raw_eq {R : Type} (N : Nat) (i : Int) (j : Int) (k : List DV → Option R) : call (E78 N) S78 12 B78 R78 [.v (.one (.int .i64 i)), .v (.one (.int .i64 j))] k = f78_raw N i j k := by kernel_rfl
end Go.Proofs.Ytcgolglcjfknpaa

/- What rime/rimeplain.CopyBytes comes to. MADE BY PROGRAM (wip/tools/mkfn.py, EngGen.lean). -/
namespace Go.Proofs.Ytcgolglcjfknpaa
open Go Go.Eng
set_option maxRecDepth 100000
set_option linter.unusedVariables false

noncomputable def f79_raw {R : Type} (N : Nat) (x : List Int) (k : List DV → Option R) : Option R :=
 bif (rowLen 1 x * 1).ble big48 && (rowLen 1 x).ble big48 then k [DV.lst IntKind.u8 1 x] else Option.none


noncomputable def E79 (N : Nat) : Env := { Θ := Th, Γ := [], K := K79, ν := N79, fuel := 0, lp := [] }


theorem f79_contract (N : Nat) (hΓ : CtxOk Try.prog []) : Contract Try.prog 79 { sig := S79, impl := fun _ ds k => call (E79 N) S79 8 B79 R79 ds k } :=
  call_contract (E := E79 N) thOk hΓ mixed ok79.look ok79.body ok79.n ok79.rv ok79.name rfl (by decide) (loopsOk_of (l := []) (by kernel_rfl) trivial)
theorem f79_raw_eq {R : Type} (N : Nat) (x : List Int) (k : List DV → Option R) : call (E79 N) S79 8 B79 R79 [.lst .u8 1 x] k = f79_raw N x k := by kernel_rfl
end Go.Proofs.Ytcgolglcjfknpaa

/- What rime/rimeplain.SameBytes comes to. MADE BY PROGRAM (wip/tools/mkfn.py, EngGen.lean). -/
namespace Go.Proofs.Ytcgolglcjfknpaa
open Go Go.Eng
set_option maxRecDepth 100000
set_option linter.unusedVariables false

def f80_0_sh : Shp := { n := 26, lo := 2, slots := [(0, .one (.fix (At.own 0))), (1, .one (.fix (At.own 1))), (5, .one (.int IntKind.i64))], items := [(0, .view IntKind.u8 1), (1, .view IntKind.u8 1)] }
def f80_0_ex1 : Shp := { n := 26, lo := 2, slots := [(4, .one (.bool)), (25, .one (.bool)), (14, .one (.bool)), (0, .one (.fix (At.own 0))), (1, .one (.fix (At.own 1))), (5, .one (.int IntKind.i64))], items := [(0, .view IntKind.u8 1), (1, .view IntKind.u8 1)] }
def f80_0_ex2 : Shp := { n := 26, lo := 2, slots := [(14, .one (.bool)), (0, .one (.fix (At.own 0))), (1, .one (.fix (At.own 1))), (5, .one (.int IntKind.i64))], items := [(0, .view IntKind.u8 1), (1, .view IntKind.u8 1)] }
noncomputable def f80_0_st {R : Type} (N : Nat) (self : Int → List Int → List Int → Option R) (k1 : Bool → Bool → Bool → Int → List Int → List Int → Option R) (k2 : Bool → Int → List Int → List Int → Option R) (x1 : Int) (x2 : List Int) (x3 : List Int) : Option R :=
 bif Decidable.decide (x1 < nI (rowLen 1 x2)) then
 bif Decidable.decide (0 ≤ x1) && Decidable.decide (x1 < nI (rowLen 1 x2)) then
 bif Decidable.decide (0 ≤ x1) && Decidable.decide (x1 < nI (rowLen 1 x3)) then
 bif x2.getD (mulE x1.toNat 1) 0 != x3.getD (mulE x1.toNat 1) 0 then k1 Bool.false (x2.getD (mulE x1.toNat 1) 0 != x3.getD (mulE x1.toNat 1) 0) (Decidable.decide (x1 < nI (rowLen 1 x2))) x1 x2 x3
 else
 let v0 : Int := IntKind.i64.wrap (x1 + 1);
 self v0 x2 x3
 else Option.none
 else Option.none
else k2 (Decidable.decide (x1 < nI (rowLen 1 x2))) x1 x2 x3
noncomputable def f80_0_lp {R : Type} (N : Nat) (k1 : Bool → Bool → Bool → Int → List Int → List Int → Option R) (k2 : Bool → Int → List Int → List Int → Option R) : Nat → Int → List Int → List Int → Option R
 | 0, _, _, _ => none
 | n + 1, x1, x2, x3 => f80_0_st N (f80_0_lp N k1 k2 n) k1 k2 x1 x2 x3
noncomputable def f80_0_F (N : Nat) : (R : Type) → List Leaf → (X → AS → Option R) → Option R := fun _ ls K => match ls with
 | [.i x1, .l x2, .l x3] => f80_0_lp N (fun y1 y2 y3 y4 y5 y6 => K (X.ret) (fill f80_0_ex1 [.b y1, .b y2, .b y3, .i y4, .l y5, .l y6])) (fun y1 y2 y3 y4 => K (X.normal) (fill f80_0_ex2 [.b y1, .i y2, .l y3, .l y4])) N x1 x2 x3
 | _ => none
noncomputable def f80_raw {R : Type} (N : Nat) (x : List Int) (y : List Int) (k : List DV → Option R) : Option R :=
 bif nI (rowLen 1 x) != nI (rowLen 1 y) then k [DV.v (SV.one (At.bool Bool.false))] else f80_0_lp N (fun w0_1 w0_2 w0_3 w0_4 w0_5 w0_6 => k [DV.v (SV.one (At.bool w0_1))]) (fun w1_1 w1_2 w1_3 w1_4 => k [DV.v (SV.one (At.bool Bool.true))]) N 0 x y


noncomputable def E80 (N : Nat) : Env := { Θ := Th, Γ := [], K := K80, ν := N80, fuel := 0, lp := [(0, mkL N80_0 f80_0_sh (f80_0_F N))] }

theorem f80_0_st_eq {R : Type} (N : Nat) (K : X → AS → Option R) (n : Nat) (x1 : Int) (x2 : List Int) (x3 : List Int) : roundsOf (E80 N) N80_0 0 B80_0 K (n + 1) (fill f80_0_sh [.i x1, .l x2, .l x3]) = f80_0_st N (fun x1 x2 x3 => roundsOf (E80 N) N80_0 0 B80_0 K n (fill f80_0_sh [.i x1, .l x2, .l x3])) (fun y1 y2 y3 y4 y5 y6 => K (X.ret) (fill f80_0_ex1 [.b y1, .b y2, .b y3, .i y4, .l y5, .l y6])) (fun y1 y2 y3 y4 => K (X.normal) (fill f80_0_ex2 [.b y1, .i y2, .l y3, .l y4])) x1 x2 x3 := by kernel_rfl
theorem f80_0_lp_eq {R : Type} (N : Nat) (K : X → AS → Option R) : ∀ (n : Nat) (x1 : Int) (x2 : List Int) (x3 : List Int), roundsOf (E80 N) N80_0 0 B80_0 K n (fill f80_0_sh [.i x1, .l x2, .l x3]) = f80_0_lp N (fun y1 y2 y3 y4 y5 y6 => K (X.ret) (fill f80_0_ex1 [.b y1, .b y2, .b y3, .i y4, .l y5, .l y6])) (fun y1 y2 y3 y4 => K (X.normal) (fill f80_0_ex2 [.b y1, .i y2, .l y3, .l y4])) n x1 x2 x3
  | 0, _, _, _ => rfl
  | n + 1, x1, x2, x3 => by
    rw [f80_0_st_eq, f80_0_lp, show (fun x1 x2 x3 => roundsOf (E80 N) N80_0 0 B80_0 K n (fill f80_0_sh [.i x1, .l x2, .l x3])) = f80_0_lp N (fun y1 y2 y3 y4 y5 y6 => K (X.ret) (fill f80_0_ex1 [.b y1, .b y2, .b y3, .i y4, .l y5, .l y6])) (fun y1 y2 y3 y4 => K (X.normal) (fill f80_0_ex2 [.b y1, .i y2, .l y3, .l y4])) n from by funext x1 x2 x3; exact f80_0_lp_eq N K n x1 x2 x3]
theorem f80_0_ok (N : Nat) (hlp : LoopsOk Try.prog (E80 N).lp B80_0) (hΓ : CtxOk Try.prog (E80 N).Γ) : LoopOk Try.prog (mkL N80_0 f80_0_sh (f80_0_F N)) 0 B80_0 := by
  refine loopOk_of (E := E80 N) thOk hΓ mixed hlp ?_
  intro R ls K r h
  unfold f80_0_F at h
  split at h
  · exact ⟨N, by rw [f80_0_lp_eq]; exact h⟩
  · cases h

theorem lok80_0 (N : Nat) (hΓ : CtxOk Try.prog []) : LoopOk Try.prog (mkL N80_0 f80_0_sh (f80_0_F N)) 0 B80_0 := f80_0_ok N (loopsOk_of (l := []) (by kernel_rfl) trivial) hΓ
theorem f80_contract (N : Nat) (hΓ : CtxOk Try.prog []) : Contract Try.prog 80 { sig := S80, impl := fun _ ds k => call (E80 N) S80 26 B80 R80 ds k } :=
  call_contract (E := E80 N) thOk hΓ mixed ok80.look ok80.body ok80.n ok80.rv ok80.name rfl (by decide) (loopsOk_of (l := [(0, B80_0)]) (by kernel_rfl) (allOk_cons (L := mkL N80_0 f80_0_sh (f80_0_F N)) rfl (lok80_0 N hΓ) trivial))
theorem f80_raw_eq {R : Type} (N : Nat) (x : List Int) (y : List Int) (k : List DV → Option R) : call (E80 N) S80 26 B80 R80 [.lst .u8 1 x, .lst .u8 1 y] k = f80_raw N x y k := by kernel_rfl
end Go.Proofs.Ytcgolglcjfknpaa

/- Marks; copies; the same bytes. -/
namespace Go.Proofs.Ytcgolglcjfknpaa
open Go Go.Eng
set_option maxRecDepth 100000

noncomputable def I78 : (R : Type) → List DV → (List DV → Option R) → Option R := fun _ ds k => match ds with
  | [.v (.one (.int .i64 i)), .v (.one (.int .i64 j))] => k [.v (.one (.int .u8 (markI i j)))]
  | _ => none
theorem c78 : Contract Try.prog 78 { sig := S78, impl := I78 } := by
  refine Contract.refine fun R ds k r h => ⟨_, f78_contract 0 ctxOk_nil, ?_⟩
  unfold I78 at h
  split at h
  · rw [f78_raw_eq]; exact h
  · cases h

noncomputable def I79 : (R : Type) → List DV → (List DV → Option R) → Option R := fun _ ds k => match ds with
  | [.lst .u8 1 a] => bif Nat.ble a.length limG then k [.lst .u8 1 a] else none
  | _ => none
theorem c79 : Contract Try.prog 79 { sig := S79, impl := I79 } := by
  refine Contract.refine fun R ds k r h => ⟨_, f79_contract 0 ctxOk_nil, ?_⟩
  unfold I79 at h
  split at h
  · rename_i a
    rw [f79_raw_eq]
    cases hb : Nat.ble a.length limG with
    | true =>
      rw [hb] at h
      have hb := Nat.le_of_ble_eq_true hb
      unfold f79_raw
      rw [show ((rowLen 1 a * 1).ble big48 && (rowLen 1 a).ble big48) = true by simp [by_rowLen, big48, limG] at *; omega]
      exact h
    | false => rw [hb] at h; cases h
  · cases h

theorem same_loop {R : Type} {N : Nat} (k1 : Bool → Option R) (a b : List Int) (hl : a.length = b.length) (hb : a.length ≤ limG) :
    ∀ (m i : Nat), i + m = a.length → ∀ fuel, m < fuel → f80_0_lp N (fun y _ _ _ _ _ => k1 y) (fun _ _ _ _ => k1 true) fuel (i : Int) a b = k1 (decide (a.drop i = b.drop i)) := by
  have hb' : a.length ≤ 1099511627776 := hb
  intro m
  induction m with
  | zero =>
    intro i h fuel hf
    obtain ⟨f, rfl⟩ : ∃ f, fuel = f + 1 := ⟨fuel - 1, by omega⟩
    have : i = a.length := by omega
    subst this
    show f80_0_st N (f80_0_lp N _ _ f) _ _ _ a b = _
    unfold f80_0_st
    rw [show decide (((a.length : Nat) : Int) < nI (rowLen 1 a)) = false by simp [by_rowLen]]
    rw [List.drop_length, hl, List.drop_length]
    simp
  | succ m ih =>
    intro i h fuel hf
    obtain ⟨f, rfl⟩ : ∃ f, fuel = f + 1 := ⟨fuel - 1, by omega⟩
    show f80_0_st N (f80_0_lp N _ _ f) _ _ _ a b = _
    unfold f80_0_st
    have h1 : decide ((i : Int) < nI (rowLen 1 a)) = true := by simp [by_rowLen]; omega
    have h2 : (decide ((0 : Int) ≤ (i : Int)) && decide ((i : Int) < nI (rowLen 1 a))) = true := by simp [by_rowLen]; omega
    have h3 : (decide ((0 : Int) ≤ (i : Int)) && decide ((i : Int) < nI (rowLen 1 b))) = true := by simp [by_rowLen]; omega
    have h4 : IntKind.i64.wrap ((i : Int) + 1) = ((i + 1 : Nat) : Int) := by_wrap (n := i + 1) (by omega)
    rw [h2, h3, h1]
    simp only [h4, cond_true, by_mulE, Int.toNat_natCast]
    rw [ih (i + 1) (by omega) f (by omega), by_drop (show i < a.length by omega), by_drop (show i < b.length by omega)]
    by_cases hx : a.getD i 0 = b.getD i 0
    · rw [hx]; simp
    · have : (a.getD i 0 != b.getD i 0) = true := by simpa using hx
      rw [this]
      simp only [cond_true, List.cons.injEq, hx, false_and, decide_false]

noncomputable def I80 : (R : Type) → List DV → (List DV → Option R) → Option R := fun _ ds k => match ds with
  | [.lst .u8 1 a, .lst .u8 1 b] => bif Nat.ble a.length limG then k [.v (.one (.bool (decide (a = b))))] else none
  | _ => none
theorem c80 : Contract Try.prog 80 { sig := S80, impl := I80 } := by
  refine Contract.refine fun R ds k r h => ?_
  unfold I80 at h
  split at h
  · rename_i a b
    refine ⟨_, f80_contract (a.length + 1) ctxOk_nil, ?_⟩
    rw [f80_raw_eq]
    cases hb : Nat.ble a.length limG with
    | true =>
      rw [hb] at h
      have hb := Nat.le_of_ble_eq_true hb
      unfold f80_raw
      by_cases hl : a.length = b.length
      · rw [show (nI (rowLen 1 a) != nI (rowLen 1 b)) = false by simp [by_rowLen, hl]]
        have := same_loop (N := a.length + 1) (fun y => k [DV.v (SV.one (At.bool y))]) a b hl hb a.length 0 (by omega) (a.length + 1) (by omega)
        exact this.trans h
      · rw [show (nI (rowLen 1 a) != nI (rowLen 1 b)) = true by simpa [by_rowLen, nI, Int.ofNat_inj] using hl]
        rw [show decide (a = b) = false by simp; intro e; exact hl (by rw [e])] at h
        exact h
    | false => rw [hb] at h; cases h
  · exact (Option.some_ne_none _ h.symm).elim

noncomputable def QB0 : Ctx := (78, { sig := S78, impl := I78 }) :: (79, { sig := S79, impl := I79 }) :: (80, { sig := S80, impl := I80 }) :: []
theorem QB0_ok : CtxOk Try.prog QB0 := ctxOk_cons ok78 rfl c78 (ctxOk_cons ok79 rfl c79 (ctxOk_cons ok80 rfl c80 ctxOk_nil))
end Go.Proofs.Ytcgolglcjfknpaa

/- What (*rime/rimeplain.Given).Bytes comes to. MADE BY PROGRAM (wip/tools/mkfn.py, EngGen.lean). -/
namespace Go.Proofs.Ytcgolglcjfknpaa
open Go Go.Eng
set_option maxRecDepth 100000
set_option linter.unusedVariables false

def f27_0_sh : Shp := { n := 61, lo := 2, slots := [(0, .one (.fix (At.ptr 0 0 Off.z 30))), (1, .one (.fix (At.own 1))), (5, .one (.fix (At.own 11))), (6, .one (.int IntKind.i64))], items := [(1, .view IntKind.u8 1), (11, .row IntKind.u8 1)] }
def f27_0_ex1 : Shp := { n := 61, lo := 2, slots := [(15, .one (.bool)), (0, .one (.fix (At.ptr 0 0 Off.z 30))), (1, .one (.fix (At.own 1))), (5, .one (.fix (At.own 11))), (6, .one (.int IntKind.i64))], items := [(1, .view IntKind.u8 1), (11, .row IntKind.u8 1)] }
noncomputable def f27_0_st {R : Type} (N : Nat) (self : Int → List Int → List Int → Option R) (k1 : Bool → Int → List Int → List Int → Option R) (x1 : Int) (x2 : List Int) (x3 : List Int) : Option R :=
 bif Decidable.decide (x1 < nI (rowLen 1 x3)) then
 bif Decidable.decide (0 ≤ x1) && Decidable.decide (x1 < nI (rowLen 1 x3)) then
 let v0 : Int := IntKind.i64.wrap (x1 + 1);
 let v1 : List Int := x3.set (mulE x1.toNat 1) (markI 987 x1);
 self v0 x2 v1
 else Option.none
else k1 (Decidable.decide (x1 < nI (rowLen 1 x3))) x1 x2 x3
noncomputable def f27_0_lp {R : Type} (N : Nat) (k1 : Bool → Int → List Int → List Int → Option R) : Nat → Int → List Int → List Int → Option R
 | 0, _, _, _ => none
 | n + 1, x1, x2, x3 => f27_0_st N (f27_0_lp N k1 n) k1 x1 x2 x3
noncomputable def f27_0_F (N : Nat) : (R : Type) → List Leaf → (X → AS → Option R) → Option R := fun _ ls K => match ls with
 | [.i x1, .l x2, .l x3] => f27_0_lp N (fun y1 y2 y3 y4 => K (X.normal) (fill f27_0_ex1 [.b y1, .i y2, .l y3, .l y4])) N x1 x2 x3
 | _ => none
def f27_2_sh : Shp := { n := 61, lo := 2, slots := [(0, .one (.fix (At.ptr 0 0 Off.z 30))), (1, .one (.fix (At.own 1))), (5, .one (.fix (At.own 11))), (7, .one (.int IntKind.i64))], items := [(1, .view IntKind.u8 1), (11, .row IntKind.u8 1)] }
def f27_2_ex1 : Shp := { n := 61, lo := 2, slots := [(26, .one (.bool)), (0, .one (.fix (At.ptr 0 0 Off.z 30))), (1, .one (.fix (At.own 1))), (5, .one (.fix (At.own 11))), (7, .one (.int IntKind.i64))], items := [(1, .view IntKind.u8 1), (11, .row IntKind.u8 1)] }
noncomputable def f27_2_st {R : Type} (N : Nat) (self : Int → List Int → List Int → Option R) (k1 : Bool → Int → List Int → List Int → Option R) (x1 : Int) (x2 : List Int) (x3 : List Int) : Option R :=
 bif Decidable.decide (x1 < nI (rowLen 1 x2)) then
 bif Decidable.decide (0 ≤ x1) && Decidable.decide (x1 < nI (rowLen 1 x2)) then
 bif Decidable.decide (0 ≤ x1) && Decidable.decide (x1 < nI (rowLen 1 x3)) then
 let v0 : Int := IntKind.i64.wrap (x1 + 1);
 let v1 : List Int := x3.set (mulE x1.toNat 1) (x2.getD (mulE x1.toNat 1) 0);
 self v0 x2 v1
 else Option.none
 else Option.none
else k1 (Decidable.decide (x1 < nI (rowLen 1 x2))) x1 x2 x3
noncomputable def f27_2_lp {R : Type} (N : Nat) (k1 : Bool → Int → List Int → List Int → Option R) : Nat → Int → List Int → List Int → Option R
 | 0, _, _, _ => none
 | n + 1, x1, x2, x3 => f27_2_st N (f27_2_lp N k1 n) k1 x1 x2 x3
noncomputable def f27_2_F (N : Nat) : (R : Type) → List Leaf → (X → AS → Option R) → Option R := fun _ ls K => match ls with
 | [.i x1, .l x2, .l x3] => f27_2_lp N (fun y1 y2 y3 y4 => K (X.normal) (fill f27_2_ex1 [.b y1, .i y2, .l y3, .l y4])) N x1 x2 x3
 | _ => none
noncomputable def f27_raw {R : Type} (N : Nat) (x : List Int) (k : List DV → Option R) : Option R :=
 let v0 : Int := IntKind.i64.wrap (nI (rowLen 1 x) + 3);
bif Decidable.decide (0 ≤ v0) && (Decidable.decide (v0 ≤ v0) && (Decidable.decide (v0 ≤ 281474976710656) && Decidable.decide (v0 * 1 ≤ 281474976710656))) then f27_0_lp N (fun w1_1 w1_2 w1_3 w1_4 => f27_2_lp N (fun w2_1 w2_2 w2_3 w2_4 => Option.none) N 0 w1_3 w1_4) N 0 x (zerosOf (mulE v0.toNat 1)) else Option.none


noncomputable def E27 (N : Nat) : Env := { Θ := Th2, Γ := QB0, K := K27, ν := N27, fuel := 0, lp := [(0, mkL N27_0 f27_0_sh (f27_0_F N)), (2, mkL N27_2 f27_2_sh (f27_2_F N))] }

theorem f27_0_st_eq {R : Type} (N : Nat) (K : X → AS → Option R) (n : Nat) (x1 : Int) (x2 : List Int) (x3 : List Int) : roundsOf (E27 N) N27_0 0 B27_0 K (n + 1) (fill f27_0_sh [.i x1, .l x2, .l x3]) = f27_0_st N (fun x1 x2 x3 => roundsOf (E27 N) N27_0 0 B27_0 K n (fill f27_0_sh [.i x1, .l x2, .l x3])) (fun y1 y2 y3 y4 => K (X.normal) (fill f27_0_ex1 [.b y1, .i y2, .l y3, .l y4])) x1 x2 x3 := by kernel_rfl
theorem f27_0_lp_eq {R : Type} (N : Nat) (K : X → AS → Option R) : ∀ (n : Nat) (x1 : Int) (x2 : List Int) (x3 : List Int), roundsOf (E27 N) N27_0 0 B27_0 K n (fill f27_0_sh [.i x1, .l x2, .l x3]) = f27_0_lp N (fun y1 y2 y3 y4 => K (X.normal) (fill f27_0_ex1 [.b y1, .i y2, .l y3, .l y4])) n x1 x2 x3
  | 0, _, _, _ => rfl
  | n + 1, x1, x2, x3 => by
    rw [f27_0_st_eq, f27_0_lp, show (fun x1 x2 x3 => roundsOf (E27 N) N27_0 0 B27_0 K n (fill f27_0_sh [.i x1, .l x2, .l x3])) = f27_0_lp N (fun y1 y2 y3 y4 => K (X.normal) (fill f27_0_ex1 [.b y1, .i y2, .l y3, .l y4])) n from by funext x1 x2 x3; exact f27_0_lp_eq N K n x1 x2 x3]
theorem f27_0_ok (N : Nat) (hlp : LoopsOk Try.prog (E27 N).lp B27_0) (hΓ : CtxOk Try.prog (E27 N).Γ) : LoopOk Try.prog (mkL N27_0 f27_0_sh (f27_0_F N)) 0 B27_0 := by
  refine loopOk_of (E := E27 N) thOk2 hΓ mixed hlp ?_
  intro R ls K r h
  unfold f27_0_F at h
  split at h
  · exact ⟨N, by rw [f27_0_lp_eq]; exact h⟩
  · cases h
theorem f27_2_st_eq {R : Type} (N : Nat) (K : X → AS → Option R) (n : Nat) (x1 : Int) (x2 : List Int) (x3 : List Int) : roundsOf (E27 N) N27_2 2 B27_2 K (n + 1) (fill f27_2_sh [.i x1, .l x2, .l x3]) = f27_2_st N (fun x1 x2 x3 => roundsOf (E27 N) N27_2 2 B27_2 K n (fill f27_2_sh [.i x1, .l x2, .l x3])) (fun y1 y2 y3 y4 => K (X.normal) (fill f27_2_ex1 [.b y1, .i y2, .l y3, .l y4])) x1 x2 x3 := by kernel_rfl
theorem f27_2_lp_eq {R : Type} (N : Nat) (K : X → AS → Option R) : ∀ (n : Nat) (x1 : Int) (x2 : List Int) (x3 : List Int), roundsOf (E27 N) N27_2 2 B27_2 K n (fill f27_2_sh [.i x1, .l x2, .l x3]) = f27_2_lp N (fun y1 y2 y3 y4 => K (X.normal) (fill f27_2_ex1 [.b y1, .i y2, .l y3, .l y4])) n x1 x2 x3
  | 0, _, _, _ => rfl
  | n + 1, x1, x2, x3 => by
    rw [f27_2_st_eq, f27_2_lp, show (fun x1 x2 x3 => roundsOf (E27 N) N27_2 2 B27_2 K n (fill f27_2_sh [.i x1, .l x2, .l x3])) = f27_2_lp N (fun y1 y2 y3 y4 => K (X.normal) (fill f27_2_ex1 [.b y1, .i y2, .l y3, .l y4])) n from by funext x1 x2 x3; exact f27_2_lp_eq N K n x1 x2 x3]
theorem f27_2_ok (N : Nat) (hlp : LoopsOk Try.prog (E27 N).lp B27_2) (hΓ : CtxOk Try.prog (E27 N).Γ) : LoopOk Try.prog (mkL N27_2 f27_2_sh (f27_2_F N)) 2 B27_2 := by
  refine loopOk_of (E := E27 N) thOk2 hΓ mixed hlp ?_
  intro R ls K r h
  unfold f27_2_F at h
  split at h
  · exact ⟨N, by rw [f27_2_lp_eq]; exact h⟩
  · cases h

theorem lok27_2 (N : Nat) (hΓ : CtxOk Try.prog QB0) : LoopOk Try.prog (mkL N27_2 f27_2_sh (f27_2_F N)) 2 B27_2 := f27_2_ok N (loopsOk_of (l := []) (by kernel_rfl) trivial) hΓ
theorem lok27_0 (N : Nat) (hΓ : CtxOk Try.prog QB0) : LoopOk Try.prog (mkL N27_0 f27_0_sh (f27_0_F N)) 0 B27_0 := f27_0_ok N (loopsOk_of (l := []) (by kernel_rfl) trivial) hΓ
theorem f27_loops (N : Nat) (hΓ : CtxOk Try.prog QB0) : LoopsOk Try.prog (E27 N).lp B27 := loopsOk_of (l := [(0, B27_0), (2, B27_2)]) (by kernel_rfl) (allOk_cons (L := mkL N27_0 f27_0_sh (f27_0_F N)) rfl (lok27_0 N hΓ) (allOk_cons (L := mkL N27_2 f27_2_sh (f27_2_F N)) rfl (lok27_2 N hΓ) trivial))
theorem f27_raw_eq {R : Type} (N : Nat) (x : List Int) (k : List DV → Option R) : exec (E27 N) B27 ({ n := 61, lo := 2, tmps := [(0, .s (.one (.ptr 0 0 .z 30))), (1, .s (.one (.own 1)))], items := [(1, .view .u8 1 x)] }) (retK Th2 { ps := [], rs := [.val] } [] R27 k) = f27_raw N x k := by kernel_rfl
end Go.Proofs.Ytcgolglcjfknpaa

/- Given: what is handed in is copied, with marks behind it; is it all as it was? -/
namespace Go.Proofs.Ytcgolglcjfknpaa
open Go Go.Eng
set_option maxRecDepth 100000


theorem given_marks {R : Type} {N : Nat} (k1 : Bool → Int → List Int → List Int → Option R) (y xs : List Int) (hb : xs.length ≤ limG) :
    ∀ (m i : Nat), i + m = xs.length → ∀ fuel, m < fuel → f27_0_lp N k1 fuel (i : Int) y (fillG (fun (j : Nat) => markI 987 (j : Int)) i xs) = k1 false (xs.length : Int) y (marksG xs.length) := by
  have hb' : xs.length ≤ 1099511627776 := hb
  intro m
  induction m with
  | zero =>
    intro i h fuel hf
    obtain ⟨f, rfl⟩ : ∃ f, fuel = f + 1 := ⟨fuel - 1, by omega⟩
    have : i = xs.length := by omega
    subst this
    show f27_0_st N (f27_0_lp N _ f) _ _ _ _ = _
    unfold f27_0_st
    rw [fillG_marks]
    rw [show decide (((xs.length : Nat) : Int) < nI (rowLen 1 (marksG xs.length))) = false by simp [by_rowLen, marksG_length], cond_false]
  | succ m ih =>
    intro i h fuel hf
    obtain ⟨f, rfl⟩ : ∃ f, fuel = f + 1 := ⟨fuel - 1, by omega⟩
    show f27_0_st N (f27_0_lp N _ f) _ _ _ _ = _
    unfold f27_0_st
    have h1 : decide ((i : Int) < nI (rowLen 1 (fillG (fun (j : Nat) => markI 987 (j : Int)) i xs))) = true := by simp [by_rowLen, fillG_length]; omega
    have h4 : IntKind.i64.wrap ((i : Int) + 1) = ((i + 1 : Nat) : Int) := by_wrap (n := i + 1) (by omega)
    simp only [h1, h4, by_mulE, Int.toNat_natCast]
    rw [show (decide ((0 : Int) ≤ (i : Int)) && true) = true by simp, cond_true, cond_true]
    rw [fillG_set (fun (j : Nat) => markI 987 (j : Int)), ih (i + 1) (by omega) f (by omega)]

theorem given_copy {R : Type} {N : Nat} (k1 : Bool → Int → List Int → List Int → Option R) (y xs : List Int) (hb : y.length ≤ limG) (hl : y.length ≤ xs.length) :
    ∀ (m i : Nat), i + m = y.length → ∀ fuel, m < fuel → f27_2_lp N k1 fuel (i : Int) y (fillG (fun (j : Nat) => y.getD j 0) i xs) = k1 false (y.length : Int) y (overG y xs) := by
  have hb' : y.length ≤ 1099511627776 := hb
  intro m
  induction m with
  | zero =>
    intro i h fuel hf
    obtain ⟨f, rfl⟩ : ∃ f, fuel = f + 1 := ⟨fuel - 1, by omega⟩
    have : i = y.length := by omega
    subst this
    show f27_2_st N (f27_2_lp N _ f) _ _ _ _ = _
    unfold f27_2_st
    rw [show decide (((y.length : Nat) : Int) < nI (rowLen 1 y)) = false by simp [by_rowLen], cond_false]
    rfl
  | succ m ih =>
    intro i h fuel hf
    obtain ⟨f, rfl⟩ : ∃ f, fuel = f + 1 := ⟨fuel - 1, by omega⟩
    show f27_2_st N (f27_2_lp N _ f) _ _ _ _ = _
    unfold f27_2_st
    have h1 : decide ((i : Int) < nI (rowLen 1 y)) = true := by simp [by_rowLen]; omega
    have h2 : decide ((i : Int) < nI (rowLen 1 (fillG (fun (j : Nat) => y.getD j 0) i xs))) = true := by simp [by_rowLen, fillG_length]; omega
    have h4 : IntKind.i64.wrap ((i : Int) + 1) = ((i + 1 : Nat) : Int) := by_wrap (n := i + 1) (by omega)
    simp only [h1, h2, h4, by_mulE, Int.toNat_natCast]
    rw [show (decide ((0 : Int) ≤ (i : Int)) && true) = true by simp, cond_true, cond_true, cond_true]
    rw [fillG_set (fun (j : Nat) => y.getD j 0), ih (i + 1) (by omega) f (by omega)]

noncomputable def L27_0 : LoopFn := mkLF N27_0 f27_0_sh fun _ ls K => match ls with
  | [.i x1, .l x2, .l x3] => bif decide (x1 = 0) && Nat.ble x3.length limG then K X.normal (fill f27_0_ex1 [.b false, .i (nI x3.length), .l x2, .l (marksG x3.length)]) else none
  | _ => none
noncomputable def L27_2 : LoopFn := mkLF N27_2 f27_2_sh fun _ ls K => match ls with
  | [.i x1, .l x2, .l x3] => bif decide (x1 = 0) && (Nat.ble x2.length limG && Nat.ble x2.length x3.length) then K X.normal (fill f27_2_ex1 [.b false, .i (nI x2.length), .l x2, .l (overG x2 x3)]) else none
  | _ => none
theorem L27_0_ok : LoopOk Try.prog L27_0 0 B27_0 := by
  refine loopOkF_of (E := E27 0) thOk2 QB0_ok mixed (loopsOk_of (l := []) (by kernel_rfl) trivial) ?_
  intro R ls K r h
  split at h
  · rename_i x1 x2 x3
    refine ⟨x3.length + 1, ?_⟩
    rw [f27_0_lp_eq]
    cases hc : decide (x1 = 0) && Nat.ble x3.length limG with
    | true =>
      rw [hc] at h
      rw [Bool.and_eq_true] at hc
      have := given_marks (N := 0) (fun y1 y2 y3 y4 => K X.normal (fill f27_0_ex1 [.b y1, .i y2, .l y3, .l y4])) x2 x3 (Nat.le_of_ble_eq_true hc.2) x3.length 0 (by omega) (x3.length + 1) (by omega)
      rw [fillG_zero] at this
      rw [of_decide_eq_true hc.1]
      exact this.trans h
    | false => rw [hc] at h; cases h
  · cases h
theorem L27_2_ok : LoopOk Try.prog L27_2 2 B27_2 := by
  refine loopOkF_of (E := E27 0) thOk2 QB0_ok mixed (loopsOk_of (l := []) (by kernel_rfl) trivial) ?_
  intro R ls K r h
  split at h
  · rename_i x1 x2 x3
    refine ⟨x2.length + 1, ?_⟩
    rw [f27_2_lp_eq]
    cases hc : decide (x1 = 0) && (Nat.ble x2.length limG && Nat.ble x2.length x3.length) with
    | true =>
      rw [hc] at h
      rw [Bool.and_eq_true, Bool.and_eq_true] at hc
      have := given_copy (N := 0) (fun y1 y2 y3 y4 => K X.normal (fill f27_2_ex1 [.b y1, .i y2, .l y3, .l y4])) x2 x3 (Nat.le_of_ble_eq_true hc.2.1) (Nat.le_of_ble_eq_true hc.2.2) x2.length 0 (by omega) (x2.length + 1) (by omega)
      rw [fillG_zero] at this
      rw [of_decide_eq_true hc.1]
      exact this.trans h
    | false => rw [hc] at h; cases h
  · cases h

noncomputable def EG27 : Env := { Θ := Th2, Γ := QB0, K := K27, ν := [], fuel := 0, lp := [(0, L27_0), (2, L27_2)] }
noncomputable def G27 : FI := { sig := { ps := [], rs := [] }, impl := fun _ ds k => callN EG27 2 61 B27 R27 ds k, kind := .inl 2 }
theorem cG27 : Contract Try.prog 27 G27 := inl_contract (E := EG27) thOk2 QB0_ok mixed ok27 (loopsOk_of (l := [(0, B27_0), (2, B27_2)]) (by kernel_rfl) (allOk_cons (L := L27_0) rfl L27_0_ok (allOk_cons (L := L27_2) rfl L27_2_ok trivial)))
noncomputable def EG34 : Env := { Θ := Th2, Γ := QB0, K := K34, ν := N34, fuel := 5, lp := [] }
noncomputable def G34 : FI := { sig := { ps := [], rs := [] }, impl := fun _ ds k => callN EG34 1 393 B34 R34 ds k, kind := .inl 1 }
theorem cG34 : Contract Try.prog 34 G34 := inl_contract (E := EG34) thOk2 QB0_ok mixed ok34 (loopsOk_of (l := [(0, B34_0), (2, B34_2), (4, B34_4), (6, B34_6), (8, B34_8), (10, B34_10), (12, B34_12), (14, B34_14), (16, B34_16), (18, B34_18), (20, B34_20), (22, B34_22), (24, B34_24), (26, B34_26), (28, B34_28)]) (by kernel_rfl) (allOk_skip rfl (allOk_skip rfl (allOk_skip rfl (allOk_skip rfl (allOk_skip rfl (allOk_skip rfl (allOk_skip rfl (allOk_skip rfl (allOk_skip rfl (allOk_skip rfl (allOk_skip rfl (allOk_skip rfl (allOk_skip rfl (allOk_skip rfl (allOk_skip rfl trivial))))))))))))))))
end Go.Proofs.Ytcgolglcjfknpaa

/- Contexts with Given. -/
namespace Go.Proofs.Ytcgolglcjfknpaa
open Go Go.Eng
set_option maxRecDepth 100000
noncomputable def QC0 : Ctx := (27, G27) :: (34, G34) :: GP0
theorem QC0_ok : CtxOk Try.prog QC0 := ctxOk_cons ok27 rfl cG27 (ctxOk_cons ok34 rfl cG34 GP0_ok)
noncomputable def QC : Ctx := (999999, noFI) :: QC0
theorem QC_ok : CtxOk Try.prog QC := ctxOk_prune QC0_ok
def startV (n : Nat) (x y : List Int) : AS :=
  { n := n, lo := 0, tmps := [(0, .s (.one (.ints .u8 32 x))), (1, .s (.one (.own 1)))], items := [(1, .view .u8 1 y)] }
end Go.Proofs.Ytcgolglcjfknpaa

/- Given: rows that are handed in. -/
namespace Go.Proofs.Ytcgolglcjfknpaa
open Go Go.Eng
set_option maxRecDepth 100000

noncomputable def marksF (n : Nat) : List Int := headG (fun i => markF 987 (i : Int)) n
theorem marksF_len (n : Nat) : (marksF n).length = n * 32 := headG_len (fun _ => markF_len _ _) n
def overF (x y : List Int) : List Int := x ++ y.drop x.length

theorem givenF_marks {R : Type} {N : Nat} (k1 : Bool → Int → List Int → List Int → Option R) (y xs : List Int) {n : Nat} (hl : xs.length = n * 32) (hn : n ≤ 33554437) :
    ∀ (m i : Nat), i + m = n → ∀ fuel, m < fuel → f58_0_lp N k1 fuel (i : Int) y (headG (fun (j : Nat) => markF 987 (j : Int)) i ++ xs.drop (i * 32)) = k1 false (n : Int) y (marksF n) := by
  have hh : ∀ i, (headG (fun (j : Nat) => markF 987 (j : Int)) i).length = i * 32 := headG_len (fun _ => markF_len _ _)
  intro m
  induction m with
  | zero =>
    intro i h fuel hf
    obtain ⟨f, rfl⟩ : ∃ f, fuel = f + 1 := ⟨fuel - 1, by omega⟩
    have : i = n := by omega
    subst this
    show f58_0_st N (f58_0_lp N _ f) _ _ _ _ = _
    unfold f58_0_st
    rw [List.drop_of_length_le (by omega), List.append_nil]
    have e : rowLen 32 (headG (fun (j : Nat) => markF 987 (j : Int)) i) = i := by show (headG (fun (j : Nat) => markF 987 (j : Int)) i).length / 32 = i; rw [hh]; omega
    rw [e, show decide (((i : Nat) : Int) < nI i) = false by simp, cond_false]; rfl
  | succ m ih =>
    intro i h fuel hf
    obtain ⟨f, rfl⟩ : ∃ f, fuel = f + 1 := ⟨fuel - 1, by omega⟩
    show f58_0_st N (f58_0_lp N _ f) _ _ _ _ = _
    unfold f58_0_st
    have e : rowLen 32 (headG (fun (j : Nat) => markF 987 (j : Int)) i ++ xs.drop (i * 32)) = n := by
      show (headG (fun (j : Nat) => markF 987 (j : Int)) i ++ xs.drop (i * 32)).length / 32 = n
      rw [List.length_append, hh, List.length_drop]; omega
    have h1 : decide ((i : Int) < nI n) = true := decide_eq_true (show (i : Int) < (n : Int) by omega)
    have h4 : IntKind.i64.wrap ((i : Int) + 1) = ((i + 1 : Nat) : Int) := by_wrap (n := i + 1) (by omega)
    have hm32 : mulE ((i : Int)).toNat 32 = i * 32 := by rw [Int.toNat_natCast]; rfl
    rw [e, h1, decide_eq_true (show (0 : Int) ≤ (i : Int) by omega), Bool.true_and, cond_true, cond_true]
    dsimp only
    rw [h4, hm32]
    have hsp : splice (headG (fun (j : Nat) => markF 987 (j : Int)) i ++ xs.drop (i * 32)) (Off.at (i * 32)) (markF 987 (i : Int)) = headG (fun (j : Nat) => markF 987 (j : Int)) (i + 1) ++ xs.drop ((i + 1) * 32) := by
      show List.take (i * 32) _ ++ (_ ++ List.drop (i * 32 + (markF 987 (i : Int)).length) _) = _
      rw [markF_len, List.take_left' (hh i), ← List.drop_drop, List.drop_left' (hh i), List.drop_drop, headG, List.append_assoc, Nat.succ_mul]
    rw [hsp]
    exact ih (i + 1) (by omega) f (by omega)

theorem givenF_copy {R : Type} {N : Nat} (k1 : Bool → Int → List Int → List Int → Option R) (y xs : List Int) {n q : Nat} (hy : y.length = n * 32) (hl : xs.length = q * 32) (hn : n ≤ q) (hq : q ≤ 33554437) :
    ∀ (m i : Nat), i + m = n → ∀ fuel, m < fuel → f58_2_lp N k1 fuel (i : Int) y (y.take (i * 32) ++ xs.drop (i * 32)) = k1 false (n : Int) y (overF y xs) := by
  have ey : rowLen 32 y = n := by show y.length / 32 = n; omega
  intro m
  induction m with
  | zero =>
    intro i h fuel hf
    obtain ⟨f, rfl⟩ : ∃ f, fuel = f + 1 := ⟨fuel - 1, by omega⟩
    have : i = n := by omega
    subst this
    show f58_2_st N (f58_2_lp N _ f) _ _ _ _ = _
    unfold f58_2_st
    rw [ey, show decide (((i : Nat) : Int) < nI i) = false by simp, cond_false]
    rw [List.take_of_length_le (by omega), ← hy]; rfl
  | succ m ih =>
    intro i h fuel hf
    obtain ⟨f, rfl⟩ : ∃ f, fuel = f + 1 := ⟨fuel - 1, by omega⟩
    show f58_2_st N (f58_2_lp N _ f) _ _ _ _ = _
    unfold f58_2_st
    have ht : (y.take (i * 32)).length = i * 32 := by rw [List.length_take]; omega
    have e : rowLen 32 (y.take (i * 32) ++ xs.drop (i * 32)) = q := by
      show (y.take (i * 32) ++ xs.drop (i * 32)).length / 32 = q
      rw [List.length_append, ht, List.length_drop]; omega
    have h1 : decide ((i : Int) < nI n) = true := decide_eq_true (show (i : Int) < (n : Int) by omega)
    have h2 : decide ((i : Int) < nI q) = true := decide_eq_true (show (i : Int) < (q : Int) by omega)
    have h4 : IntKind.i64.wrap ((i : Int) + 1) = ((i + 1 : Nat) : Int) := by_wrap (n := i + 1) (by omega)
    have hm32 : mulE ((i : Int)).toNat 32 = i * 32 := by rw [Int.toNat_natCast]; rfl
    rw [ey, e, h1, h2, decide_eq_true (show (0 : Int) ≤ (i : Int) by omega), Bool.true_and, cond_true, cond_true, cond_true]
    dsimp only
    rw [h4, hm32]
    have hrow : (List.take 32 (List.drop (i * 32) y)).length = 32 := by rw [List.length_take, List.length_drop]; omega
    have hsp : splice (y.take (i * 32) ++ xs.drop (i * 32)) (Off.at (i * 32)) (List.take 32 (List.drop (i * 32) y)) = y.take ((i + 1) * 32) ++ xs.drop ((i + 1) * 32) := by
      show List.take (i * 32) _ ++ (_ ++ List.drop (i * 32 + (List.take 32 (List.drop (i * 32) y)).length) _) = _
      rw [hrow, List.take_left' ht, ← List.drop_drop, List.drop_left' ht, List.drop_drop, ← List.append_assoc, Nat.succ_mul, List.take_add]
    rw [hsp]
    exact ih (i + 1) (by omega) f (by omega)

noncomputable def L58_0 : LoopFn := mkLF N58_0 f58_0_sh fun _ ls K => match ls with
  | [.i x1, .l x2, .l x3] => bif decide (x1 = 0) && okR x3 then K X.normal (fill f58_0_ex1 [.b false, .i (nI (rowLen 32 x3)), .l x2, .l (marksF (rowLen 32 x3))]) else none
  | _ => none
noncomputable def L58_2 : LoopFn := mkLF N58_2 f58_2_sh fun _ ls K => match ls with
  | [.i x1, .l x2, .l x3] => bif decide (x1 = 0) && (okR x2 && (okR x3 && Nat.ble x2.length x3.length)) then K X.normal (fill f58_2_ex1 [.b false, .i (nI (rowLen 32 x2)), .l x2, .l (overF x2 x3)]) else none
  | _ => none
theorem L58_0_ok : LoopOk Try.prog L58_0 0 B58_0 := by
  refine loopOkF_of (E := E58 0) thOk2 QF0_ok mixed (loopsOk_of (l := []) (by kernel_rfl) trivial) ?_
  intro R ls K r h
  split at h
  · rename_i x1 x2 x3
    refine ⟨x3.length / 32 + 1, ?_⟩
    rw [f58_0_lp_eq]
    cases hc : decide (x1 = 0) && okR x3 with
    | true =>
      rw [hc] at h
      rw [Bool.and_eq_true] at hc
      obtain ⟨g1, g2⟩ := okR_n hc.2
      have := givenF_marks (N := 0) (fun y1 y2 y3 y4 => K X.normal (fill f58_0_ex1 [.b y1, .i y2, .l y3, .l y4])) x2 x3 g1 (by omega) (x3.length / 32) 0 (by omega) (x3.length / 32 + 1) (by omega)
      rw [of_decide_eq_true hc.1]
      rw [headG, List.nil_append, Nat.zero_mul, List.drop_zero] at this
      exact this.trans h
    | false => rw [hc] at h; cases h
  · cases h
theorem L58_2_ok : LoopOk Try.prog L58_2 2 B58_2 := by
  refine loopOkF_of (E := E58 0) thOk2 QF0_ok mixed (loopsOk_of (l := []) (by kernel_rfl) trivial) ?_
  intro R ls K r h
  split at h
  · rename_i x1 x2 x3
    refine ⟨x2.length / 32 + 1, ?_⟩
    rw [f58_2_lp_eq]
    cases hc : decide (x1 = 0) && (okR x2 && (okR x3 && Nat.ble x2.length x3.length)) with
    | true =>
      rw [hc] at h
      rw [Bool.and_eq_true, Bool.and_eq_true, Bool.and_eq_true] at hc
      obtain ⟨g1, g2⟩ := okR_n hc.2.1
      obtain ⟨k1, k2⟩ := okR_n hc.2.2.1
      have hle := Nat.le_of_ble_eq_true hc.2.2.2
      have := givenF_copy (N := 0) (fun y1 y2 y3 y4 => K X.normal (fill f58_2_ex1 [.b y1, .i y2, .l y3, .l y4])) x2 x3 g1 k1 (by omega) (by omega) (x2.length / 32) 0 (by omega) (x2.length / 32 + 1) (by omega)
      rw [of_decide_eq_true hc.1]
      rw [Nat.zero_mul, List.drop_zero, List.take_zero, List.nil_append] at this
      exact this.trans h
    | false => rw [hc] at h; cases h
  · cases h

noncomputable def EG58 : Env := { Θ := Th2, Γ := QF0, K := K58, ν := [], fuel := 0, lp := [(0, L58_0), (2, L58_2)] }
noncomputable def G58 : FI := { sig := { ps := [], rs := [] }, impl := fun _ ds k => callN EG58 2 61 B58 R58 ds k, kind := .inl 2 }
theorem cG58 : Contract Try.prog 58 G58 := inl_contract (E := EG58) thOk2 QF0_ok mixed ok58 (loopsOk_of (l := [(0, B58_0), (2, B58_2)]) (by kernel_rfl) (allOk_cons (L := L58_0) rfl L58_0_ok (allOk_cons (L := L58_2) rfl L58_2_ok trivial)))
noncomputable def QBF : Ctx := (56, { sig := S56, impl := I56 }) :: QB0
theorem QBF_ok : CtxOk Try.prog QBF := ctxOk_cons ok56 rfl c56 QB0_ok
noncomputable def EG34f : Env := { Θ := Th2, Γ := QBF, K := K34, ν := N34, fuel := 5, lp := [] }
noncomputable def G34f : FI := { sig := { ps := [], rs := [] }, impl := fun _ ds k => callN EG34f 1 393 B34 R34 ds k, kind := .inl 1 }
theorem cG34f : Contract Try.prog 34 G34f := inl_contract (E := EG34f) thOk2 QBF_ok mixed ok34 (loopsOk_of (l := [(0, B34_0), (2, B34_2), (4, B34_4), (6, B34_6), (8, B34_8), (10, B34_10), (12, B34_12), (14, B34_14), (16, B34_16), (18, B34_18), (20, B34_20), (22, B34_22), (24, B34_24), (26, B34_26), (28, B34_28)]) (by kernel_rfl) (allOk_skip rfl (allOk_skip rfl (allOk_skip rfl (allOk_skip rfl (allOk_skip rfl (allOk_skip rfl (allOk_skip rfl (allOk_skip rfl (allOk_skip rfl (allOk_skip rfl (allOk_skip rfl (allOk_skip rfl (allOk_skip rfl (allOk_skip rfl (allOk_skip rfl trivial))))))))))))))))
noncomputable def QD0 : Ctx := (58, G58) :: (34, G34f) :: (56, { sig := S56, impl := I56 }) :: (57, { sig := S57, impl := I57 }) :: (59, { sig := S59, impl := I59 }) :: GP0
theorem QD0_ok : CtxOk Try.prog QD0 := ctxOk_cons ok58 rfl cG58 (ctxOk_cons ok34 rfl cG34f (ctxOk_cons ok56 rfl c56 (ctxOk_cons ok57 rfl c57 (ctxOk_cons ok59 rfl c59 GP0_ok))))
noncomputable def QD : Ctx := (999999, noFI) :: QD0
theorem QD_ok : CtxOk Try.prog QD := ctxOk_prune QD0_ok
def startF (n : Nat) (x : List Int) : AS :=
  { n := n, lo := 0, tmps := [(0, .s (.one (.own 0)))], items := [(0, .view .u8 32 x)] }
end Go.Proofs.Ytcgolglcjfknpaa

/- What rime/rimelaw01.FieldInverses comes to. MADE BY PROGRAM (wip/tools/mkfn.py, EngGen.lean). -/
namespace Go.Proofs.Ytcgolglcjfknpaa
open Go Go.Eng
set_option maxRecDepth 100000
set_option linter.unusedVariables false

noncomputable def f10_raw {R : Type} (N : Nat) (x : List Int) (k : List DV → Option R) : Option R :=
 let v0 : Int := IntKind.i64.wrap (nI (rowLen 32 x) + 3);
bif Decidable.decide (0 ≤ v0) && (Decidable.decide (v0 ≤ v0) && (Decidable.decide (v0 ≤ 281474976710656) && Decidable.decide (v0 * 32 ≤ 281474976710656))) then
 bif Decidable.decide (0 = 0) && okR (zerosOf (mulE v0.toNat 32)) then
 bif Decidable.decide (0 = 0) && (okR x && (okR (marksF (rowLen 32 (zerosOf (mulE v0.toNat 32)))) && x.length.ble (marksF (rowLen 32 (zerosOf (mulE v0.toNat 32)))).length)) then
 bif okR (overF x (marksF (rowLen 32 (zerosOf (mulE v0.toNat 32))))) then
 bif hiOk (Option.some (nI (rowLen 32 x))) (rowLen 32 (overF x (marksF (rowLen 32 (zerosOf (mulE v0.toNat 32)))))) then
 let v1 : List Int := Go.Eng.sub (overF x (marksF (rowLen 32 (zerosOf (mulE v0.toNat 32))))) (plusO Off.z 32 Option.none) (mulE (Go.Eng.subN (hiNat (Option.some (nI (rowLen 32 x))) (rowLen 32 (overF x (marksF (rowLen 32 (zerosOf (mulE v0.toNat 32))))))) Option.none) 32);
 bif okF v1 then
 bif okF x then
 bif okR (invF v1) && okR (invF x) then
 bif Decidable.decide (invF v1 = invF x) then
 bif okR (overF x (marksF (rowLen 32 (zerosOf (mulE v0.toNat 32))))) && okR (overF x (marksF (rowLen 32 (zerosOf (mulE v0.toNat 32))))) then
 bif !Decidable.decide (overF x (marksF (rowLen 32 (zerosOf (mulE v0.toNat 32)))) = overF x (marksF (rowLen 32 (zerosOf (mulE v0.toNat 32))))) then Option.none
 else
 let v2 : Bool := bif Bool.true then Bool.true else Bool.false;
 k [DV.v (SV.one (At.bool v2))]
 else Option.none
 else Option.none
 else Option.none
 else Option.none
 else Option.none
 else Option.none
 else Option.none
 else Option.none
 else Option.none
else Option.none


noncomputable def E10 (N : Nat) : Env := { Θ := Th, Γ := QD, K := K10, ν := N10, fuel := 0, lp := [] }


theorem f10_loops (N : Nat) (hΓ : CtxOk Try.prog QD) : LoopsOk Try.prog (E10 N).lp B10 := loopsOk_of (l := []) (by kernel_rfl) trivial
theorem f10_raw_eq {R : Type} (N : Nat) (x : List Int) (k : List DV → Option R) : exec (E10 N) B10 (startF 16 x) (retK Th { ps := [], rs := [.val] } [] R10 k) = f10_raw N x k := by kernel_rfl
end Go.Proofs.Ytcgolglcjfknpaa

/- FieldInverses: what is compared is the same. -/
namespace Go.Proofs.Ytcgolglcjfknpaa
open Go Go.Eng
set_option maxRecDepth 100000
theorem f10_true (N : Nat) {x : List Int} {n : Nat} (hl : x.length = n * 32) (hn : n ≤ 1048576) (hx : okF x = true) : f10_raw N x some = some [.v (.one (.bool true))] := by
  have e0 : rowLen 32 x = n := by show x.length / 32 = n; omega
  have e1 : IntKind.i64.wrap (nI n + 3) = ((n + 3 : Nat) : Int) := by
    show IntKind.i64.wrap ((n : Int) + 3) = _
    rw [show (n : Int) + 3 = ((n + 3 : Nat) : Int) by omega]
    exact by_wrap (by omega)
  have e2 : mulE (((n + 3 : Nat) : Int)).toNat 32 = (n + 3) * 32 := by rw [Int.toNat_natCast]; rfl
  have e3 : rowLen 32 (zerosOf ((n + 3) * 32)) = n + 3 := by show (zerosOf ((n + 3) * 32)).length / 32 = n + 3; rw [zeros_len]; omega
  have hM : (marksF (n + 3)).length = (n + 3) * 32 := marksF_len _
  have hO : (overF x (marksF (n + 3))).length = (n + 3) * 32 := by unfold overF; rw [List.length_append, List.length_drop, hM]; omega
  have e4 : rowLen 32 (overF x (marksF (n + 3))) = n + 3 := by show (overF x (marksF (n + 3))).length / 32 = n + 3; rw [hO]; omega
  have e5 : hiOk (some (nI n)) (n + 3) = true := by
    show (decide ((0 : Int) ≤ (n : Int)) && decide ((n : Int) ≤ ((n + 3 : Nat) : Int))) = true
    rw [decide_eq_true (by omega), decide_eq_true (by omega)]; rfl
  have e6 : Go.Eng.sub (overF x (marksF (n + 3))) (plusO Off.z 32 none) (mulE (Go.Eng.subN (hiNat (some (nI n)) (n + 3)) none) 32) = x := by
    show (x ++ (marksF (n + 3)).drop x.length).take (mulE ((n : Int)).toNat 32) = x
    rw [Int.toNat_natCast, show mulE n 32 = n * 32 from rfl, List.take_left' hl]
  have g0 : (decide (0 ≤ ((n + 3 : Nat) : Int)) && (decide (((n + 3 : Nat) : Int) ≤ ((n + 3 : Nat) : Int)) && (decide (((n + 3 : Nat) : Int) ≤ 281474976710656) && decide (((n + 3 : Nat) : Int) * 32 ≤ 281474976710656)))) = true := by
    rw [decide_eq_true (by omega), decide_eq_true (by omega), decide_eq_true (by omega), decide_eq_true (by omega)]; rfl
  have g1 : okR (zerosOf ((n + 3) * 32)) = true := okR_of (zeros_len _) (by omega)
  have g2 : okR x = true := okR_of hl (by omega)
  have g3 : okR (marksF (n + 3)) = true := okR_of hM (by omega)
  have g4 : okR (overF x (marksF (n + 3))) = true := okR_of hO (by omega)
  have g5 : okR (invF x) = true := by
    refine okR_of (n := n) ?_ (by omega)
    unfold invF
    rw [headG_len (fun i => feN_len _), hl]; omega
  unfold f10_raw
  dsimp only
  simp only [e0, e1, e2, e3, e4, e5, e6, g0, g1, g2, g3, g4, g5, hx, hM, hl, cond_true, cond_false, Bool.and_self, decide_true, Bool.true_and, Bool.not_true, show (n * 32).ble ((n + 3) * 32) = true from Nat.ble_eq_true_of_le (by omega)]

theorem okF_row {x : List Int} {len : Nat} (hm : len ≤ 1048576) (hl : x.length = len * 32) (hw : ∀ y ∈ x, (Lit.int .u8 y).wf = true) (hb : ∀ y : Int, (Lit.int .u8 y).wf = true → 0 ≤ y ∧ y < 256) : okF x = true := by
  unfold okF
  rw [hl, Nat.mul_mod_left, show Nat.ble (len * 32) 1073741824 = true from Nat.ble_eq_true_of_le (by omega)]
  rw [show (Nat.beq 0 0 && true) = true from rfl, Bool.true_and, List.all_eq_true]
  intro b h
  have := hb b (hw b h)
  rw [Bool.and_eq_true]
  exact ⟨decide_eq_true this.1, decide_eq_true this.2⟩
end Go.Proofs.Ytcgolglcjfknpaa

/- FieldInverses: for any list of field elements whose data stay within 1,048,576: InvertAll answers as the document, and the list that was handed in stands as it stood. -/
namespace Go.Proofs.Ytcgolglcjfknpaa
open Go Go.Eng Go.ChangeShapes Go.WideShapes Go.RowKit Go.ChangeAt
set_option maxRecDepth 100000

theorem contract10 (H : Type) (enc : TypeId × Value → H) (W : World) (base : Nat) (args : Array Value) (ds gs : List (DataW H)) (before : List MemPlace)
    (hval : ∀ (j : Nat) t v, Try.f10.params[j]? = some t → args[j]? = some v → Value.okWide Try.prog W .any base t v)
    (hW : DataW.Whole enc Try.prog Try.f10.params.toList Rows.fieldInversesSpec.vars false W args.toList ds gs before) (hk : Rows.uptoSmall H (ds ++ gs) = true) :
    Calls Try.prog 10 args W fun e W' => ∃ v, e = .returned v ∧ Rows.fieldInversesSpec.post enc Try.prog Try.f10 false true false false W args v W' := by
  have hW' := hW
  obtain ⟨p, q, hA, hV, rfl, hfz, hnd⟩ := hW
  obtain ⟨rfl, rfl⟩ := trodVars_none hV
  rw [Try.params10] at hA hval
  obtain ⟨v0, vs0, d0, ds0, p0, q0, hargs, rfl, rfl, h0, r0⟩ := trodAll_cons hA
  obtain ⟨rfl, rfl, rfl⟩ := trodAll_nil r0
  obtain rfl : args = #[v0] := by cases args; simp_all
  have hb := bulk_bound hk
  simp only [List.append_nil, Rows.uptoBulkAll, Nat.add_zero] at hb
  obtain ⟨A0, n0, c0, rfl⟩ := okWide_slice Try.underlying65 (hval 0 65 v0 rfl rfl)
  obtain ⟨f0, h0⟩ := h0
  obtain ⟨x0, len0, cap0, Ad0, loc0, o01, o02, l0, o04, o05, o06, w0, o08⟩ := open_view (k := .u8) (es := 32) Try.underlying65 (by omega) (elFe H enc) h0
  have b0 : len0 ≤ Rows.uptoBulk d0 := bulk_slice o08
  have hs : Sim W ⟨fun _ => False, locOf [(0, loc0)], fun _ => 0, (startF 16 x0).S⟩ (⟨locOf [(0, loc0)], fun _ => 0⟩ : Rho) (startF 16 x0) { tmps := #[.slice A0 n0 c0] ++ Array.replicate (16 - 1) undef, defers := [] } W := by
    refine sim_start (s0 := startF 16 x0) (ρ := ⟨locOf [(0, loc0)], fun _ => 0⟩) (args := #[.slice A0 n0 c0]) (n := 16) (avs := [.s (.one (.own 0))]) rfl (by simp) rfl ?_ ?_ ?_ ⟨(show RelAt ⟨locOf [(0, loc0)], fun _ => 0⟩ (startF 16 x0).S (.own 0) [Value.slice A0 n0 c0] from rel_own rfl o01 o02 l0 o05 (by omega) rfl), trivial⟩
    · simp [startF, Nodup', putNames]
    · intro j it hi
      simp only [startF, AS.I, findI_cons] at hi
      split at hi
      · rename_i hj; subst hj; injection hi with hi; subst hi
        exact ⟨_, _, _, rfl, by omega, ⟨len0, l0⟩, o04⟩
      ·
        simp [findI] at hi
    · intro j p hp
      simp only [locOf] at hp
      split at hp
      · exact o06 p hp
      ·
        cases hp
  have he := f10_true 0 l0 (by omega) (okF_row (by omega) l0 w0 (fun _ => wf_u8))
  rw [← f10_raw_eq] at he
  refine (law_calls thOk QD_ok mixed ok10 (f10_loops 0 QD_ok) (fun _ => id) hs he).mono fun e W' ⟨h1, h2, h3, h4⟩ => ?_
  exact ⟨_, h1, post_of_law laidOut (by kernel_rfl) Try.underlying4 rfl (by rw [Try.params10]; intro t ht; simp only [List.mem_cons, List.not_mem_nil, or_false] at ht; subst ht <;> exact ⟨by kernel_rfl, by decide +kernel⟩) ⟨rfl, rfl, rfl⟩ hW' h2 h3 h4⟩

theorem lifted10 (os : Os) (started : os.Started) (H : Type) (enc : TypeId × Value → H) (F : Stop.Interp) :
    ReturnsInHanded {} Try.checked os 10 .any ((Rows.OpenSpec.upto Rows.fieldInversesSpec).pre6 enc Try.prog Try.f10 Rows.fieldInversesUptoRow.domain false) (((Rows.OpenSpec.upto Rows.fieldInversesSpec).at F).post enc Try.prog Try.f10 false true false false) := by
  refine returnsInHanded_of_cond (C := Try.checked) (s := Rows.OpenSpec.upto Rows.fieldInversesSpec) (k := Rows.uptoSmall) rfl own0 started (by kernel_rfl) Try.func10
    (OpenSpec.witness (enc := enc) (C := Try.checked) (s := Rows.OpenSpec.upto Rows.fieldInversesSpec) (k := Rows.uptoSmall) rfl false ⟨#[], #[.slice none 0 0], []⟩ 8 (by kernel_rfl) (by kernel_rfl) (by kernel_rfl)
      (x := ([.nil], [], [])) (by kernel_rfl) rfl (by kernel_rfl)) ?_
  intro W base args ds gs before hval hW _ hk _
  exact contract10 H enc W base args ds gs before hval hW hk

theorem over10 : Rows.fieldInversesUptoRow.holds Try.pinned (Rows.OpenSpec.upto Rows.fieldInversesSpec) :=
  OpenClaim.holds_of_cond 10 Try.f10 rfl rfl rfl rfl rfl rfl rfl ⟨rfl, rfl, rfl, rfl, rfl⟩ rfl rfl rfl rfl rfl (by kernel_rfl) Try.func10 (by kernel_rfl)
    (of_decide_eq_true (by kernel_rfl)) (by unfold Func.isWrapper; first | (rw [if_pos (by decide +kernel)]; kernel_rfl) | (rw [if_neg (by decide +kernel)]; exact ⟨rfl, rfl⟩))
    (fun os started H enc _ F => lifted10 os started H enc F)

theorem fieldInverses_holds : Rows.FieldInversesUptoSaid := over10
end Go.Proofs.Ytcgolglcjfknpaa

#print axioms Go.Proofs.Ytcgolglcjfknpaa.fieldInverses_holds
