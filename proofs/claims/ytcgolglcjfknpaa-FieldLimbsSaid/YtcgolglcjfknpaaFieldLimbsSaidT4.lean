/- FieldLimbs: Split of any field element and Join of any five numbers answer as the document. -/
import Derived.Test.YtcgolglcjfknpaaFieldLimbsSaidT3
import Derived.WalkKit
import Derived.ProofKit
import Derived.JoinedCond
set_option linter.unusedVariables false
set_option linter.unusedSimpArgs false

/- What rime/rimeref01.Value comes to. MADE BY PROGRAM (wip/tools/mkfn.py, EngGen.lean). -/
namespace Go.Proofs.Ytcgolglcjfknpaa
open Go Go.Eng
set_option maxRecDepth 100000
set_option linter.unusedVariables false

noncomputable def f69_raw {R : Type} (N : Nat) (x : List Int) (k : List DV → Option R) : Option R :=
 let v0 : List Int := Go.Eng.sub x (plusO Off.z 1 Option.none) (mulE (Go.Eng.subN (hiNat Option.none 32) Option.none) 1);
bif okE v0 && Decidable.decide (v0.length ≤ 1000000) then bif okL (digL v0) then k [DV.v (SV.one (At.ints IntKind.u64 16 (refN (numD (digL v0) % p25519))))] else Option.none else Option.none


noncomputable def E69 (N : Nat) : Env := { Θ := Th, Γ := HC, K := K69, ν := N69, fuel := 0, lp := [] }


theorem f69_contract (N : Nat) (hΓ : CtxOk Try.prog HC) : Contract Try.prog 69 { sig := S69, impl := fun _ ds k => call (E69 N) S69 6 B69 R69 ds k } :=
  call_contract (E := E69 N) thOk hΓ mixed ok69.look ok69.body ok69.n ok69.rv ok69.name rfl (by decide) (loopsOk_of (l := []) (by kernel_rfl) trivial)
theorem f69_raw_eq {R : Type} (N : Nat) (x : List Int) (k : List DV → Option R) : call (E69 N) S69 6 B69 R69 [.v (.one (.ints .u8 32 x))] k = f69_raw N x k := by kernel_rfl
end Go.Proofs.Ytcgolglcjfknpaa

/- What rime/rimeref01.add comes to. MADE BY PROGRAM (wip/tools/mkfn.py, EngGen.lean). -/
namespace Go.Proofs.Ytcgolglcjfknpaa
open Go Go.Eng
set_option maxRecDepth 100000
set_option linter.unusedVariables false

def f98_0_sh : Shp := { n := 24, lo := 2, slots := [(2, .one (.fix (At.ptr 2 0 Off.z 16))), (3, .one (.fix (At.ptr 3 0 Off.z 16))), (4, .one (.fix (At.ptr 4 0 Off.z 16))), (5, .one (.fix (At.own 7))), (6, .one (.int IntKind.i64))], items := [(2, .obj [.ints IntKind.u64 16]), (3, .obj [.ints IntKind.u64 16]), (4, .obj [.ints IntKind.u64 16]), (7, .row IntKind.u64 1)] }
def f98_0_ex1 : Shp := { n := 24, lo := 2, slots := [(9, .one (.bool)), (2, .one (.fix (At.ptr 2 0 Off.z 16))), (3, .one (.fix (At.ptr 3 0 Off.z 16))), (4, .one (.fix (At.ptr 4 0 Off.z 16))), (5, .one (.fix (At.own 7))), (6, .one (.int IntKind.i64))], items := [(2, .obj [.ints IntKind.u64 16]), (3, .obj [.ints IntKind.u64 16]), (4, .obj [.ints IntKind.u64 16]), (7, .row IntKind.u64 1)] }
noncomputable def f98_0_st {R : Type} (N : Nat) (self : Int → List Int → List Int → List Int → List Int → Option R) (k1 : Bool → Int → List Int → List Int → List Int → List Int → Option R) (x1 : Int) (x2 : List Int) (x3 : List Int) (x4 : List Int) (x5 : List Int) : Option R :=
 bif Decidable.decide (x1 < 16) then
 bif Decidable.decide (0 ≤ x1) && Decidable.decide (x1 < 16) then
 bif Decidable.decide (0 ≤ x1) && Decidable.decide (x1 < 16) then
 bif Decidable.decide (0 ≤ x1) && Decidable.decide (x1 < nI (rowLen 1 x5)) then
 let v0 : Int := IntKind.i64.wrap (x1 + 1);
 let v1 : Int := IntKind.u64.wrap (x2.getD (mulE x1.toNat 1) 0 + x3.getD (mulE x1.toNat 1) 0);
 let v2 : List Int := x5.set (mulE x1.toNat 1) v1;
 self v0 x2 x3 x4 v2
 else Option.none
 else Option.none
 else Option.none
else k1 (Decidable.decide (x1 < 16)) x1 x2 x3 x4 x5
noncomputable def f98_0_lp {R : Type} (N : Nat) (k1 : Bool → Int → List Int → List Int → List Int → List Int → Option R) : Nat → Int → List Int → List Int → List Int → List Int → Option R
 | 0, _, _, _, _, _ => none
 | n + 1, x1, x2, x3, x4, x5 => f98_0_st N (f98_0_lp N k1 n) k1 x1 x2 x3 x4 x5
noncomputable def f98_0_F (N : Nat) : (R : Type) → List Leaf → (X → AS → Option R) → Option R := fun _ ls K => match ls with
 | [.i x1, .l x2, .l x3, .l x4, .l x5] => f98_0_lp N (fun y1 y2 y3 y4 y5 y6 => K (X.normal) (fill f98_0_ex1 [.b y1, .i y2, .l y3, .l y4, .l y5, .l y6])) N x1 x2 x3 x4 x5
 | _ => none
noncomputable def f98_raw {R : Type} (N : Nat) (x : List Int) (y : List Int) (k : List DV → Option R) : Option R :=
 f98_0_lp N (fun w0_1 w0_2 w0_3 w0_4 w0_5 w0_6 => bif okL w0_6 then k [DV.v (SV.one (At.ints IntKind.u64 16 (refN (numD w0_6 % p25519))))] else Option.none) N 0 x y (List.replicate 16 0) (zerosOf (mulE (Int.toNat 16) 1))


noncomputable def E98 (N : Nat) : Env := { Θ := Th, Γ := HC, K := K98, ν := N98, fuel := 0, lp := [(0, mkL N98_0 f98_0_sh (f98_0_F N))] }

theorem f98_0_st_eq {R : Type} (N : Nat) (K : X → AS → Option R) (n : Nat) (x1 : Int) (x2 : List Int) (x3 : List Int) (x4 : List Int) (x5 : List Int) : roundsOf (E98 N) N98_0 0 B98_0 K (n + 1) (fill f98_0_sh [.i x1, .l x2, .l x3, .l x4, .l x5]) = f98_0_st N (fun x1 x2 x3 x4 x5 => roundsOf (E98 N) N98_0 0 B98_0 K n (fill f98_0_sh [.i x1, .l x2, .l x3, .l x4, .l x5])) (fun y1 y2 y3 y4 y5 y6 => K (X.normal) (fill f98_0_ex1 [.b y1, .i y2, .l y3, .l y4, .l y5, .l y6])) x1 x2 x3 x4 x5 := by kernel_rfl
theorem f98_0_lp_eq {R : Type} (N : Nat) (K : X → AS → Option R) : ∀ (n : Nat) (x1 : Int) (x2 : List Int) (x3 : List Int) (x4 : List Int) (x5 : List Int), roundsOf (E98 N) N98_0 0 B98_0 K n (fill f98_0_sh [.i x1, .l x2, .l x3, .l x4, .l x5]) = f98_0_lp N (fun y1 y2 y3 y4 y5 y6 => K (X.normal) (fill f98_0_ex1 [.b y1, .i y2, .l y3, .l y4, .l y5, .l y6])) n x1 x2 x3 x4 x5
  | 0, _, _, _, _, _ => rfl
  | n + 1, x1, x2, x3, x4, x5 => by
    rw [f98_0_st_eq, f98_0_lp, show (fun x1 x2 x3 x4 x5 => roundsOf (E98 N) N98_0 0 B98_0 K n (fill f98_0_sh [.i x1, .l x2, .l x3, .l x4, .l x5])) = f98_0_lp N (fun y1 y2 y3 y4 y5 y6 => K (X.normal) (fill f98_0_ex1 [.b y1, .i y2, .l y3, .l y4, .l y5, .l y6])) n from by funext x1 x2 x3 x4 x5; exact f98_0_lp_eq N K n x1 x2 x3 x4 x5]
theorem f98_0_ok (N : Nat) (hlp : LoopsOk Try.prog (E98 N).lp B98_0) (hΓ : CtxOk Try.prog (E98 N).Γ) : LoopOk Try.prog (mkL N98_0 f98_0_sh (f98_0_F N)) 0 B98_0 := by
  refine loopOk_of (E := E98 N) thOk hΓ mixed hlp ?_
  intro R ls K r h
  unfold f98_0_F at h
  split at h
  · exact ⟨N, by rw [f98_0_lp_eq]; exact h⟩
  · cases h

theorem lok98_0 (N : Nat) (hΓ : CtxOk Try.prog HC) : LoopOk Try.prog (mkL N98_0 f98_0_sh (f98_0_F N)) 0 B98_0 := f98_0_ok N (loopsOk_of (l := []) (by kernel_rfl) trivial) hΓ
theorem f98_contract (N : Nat) (hΓ : CtxOk Try.prog HC) : Contract Try.prog 98 { sig := S98, impl := fun _ ds k => call (E98 N) S98 24 B98 R98 ds k } :=
  call_contract (E := E98 N) thOk hΓ mixed ok98.look ok98.body ok98.n ok98.rv ok98.name rfl (by decide) (loopsOk_of (l := [(0, B98_0)]) (by kernel_rfl) (allOk_cons (L := mkL N98_0 f98_0_sh (f98_0_F N)) rfl (lok98_0 N hΓ) trivial))
theorem f98_raw_eq {R : Type} (N : Nat) (x : List Int) (y : List Int) (k : List DV → Option R) : call (E98 N) S98 24 B98 R98 [.v (.one (.ints .u64 16 x)), .v (.one (.ints .u64 16 y))] k = f98_raw N x y k := by kernel_rfl
end Go.Proofs.Ytcgolglcjfknpaa

/- What rime/rimeref01.neg comes to. MADE BY PROGRAM (wip/tools/mkfn.py, EngGen.lean). -/
namespace Go.Proofs.Ytcgolglcjfknpaa
open Go Go.Eng
set_option maxRecDepth 100000
set_option linter.unusedVariables false

def f99_0_sh : Shp := { n := 32, lo := 1, slots := [(1, .one (.fix (At.ptr 1 0 Off.z 16))), (2, .one (.fix (At.ptr 2 0 Off.z 16))), (3, .one (.fix (At.ptr 3 0 Off.z 16))), (4, .one (.int IntKind.u64)), (5, .one (.int IntKind.i64))], items := [(1, .obj [.ints IntKind.u64 16]), (2, .obj [.ints IntKind.u64 16]), (3, .obj [.ints IntKind.u64 16])] }
def f99_0_ex1 : Shp := { n := 32, lo := 1, slots := [(8, .one (.bool)), (1, .one (.fix (At.ptr 1 0 Off.z 16))), (2, .one (.fix (At.ptr 2 0 Off.z 16))), (3, .one (.fix (At.ptr 3 0 Off.z 16))), (4, .one (.int IntKind.u64)), (5, .one (.int IntKind.i64))], items := [(1, .obj [.ints IntKind.u64 16]), (2, .obj [.ints IntKind.u64 16]), (3, .obj [.ints IntKind.u64 16])] }
noncomputable def f99_0_st {R : Type} (N : Nat) (self : Int → Int → List Int → List Int → List Int → Option R) (k1 : Bool → Int → Int → List Int → List Int → List Int → Option R) (x1 : Int) (x2 : Int) (x3 : List Int) (x4 : List Int) (x5 : List Int) : Option R :=
 bif Decidable.decide (x2 < 16) then
 bif Decidable.decide (0 ≤ x2) && Decidable.decide (x2 < 16) then
 bif Decidable.decide (0 ≤ x2) && Decidable.decide (x2 < 16) then
 let v0 : Int := IntKind.u64.wrap (pD x2 + 65536);
 let v1 : Int := IntKind.u64.wrap (v0 - x3.getD (mulE x2.toNat 1) 0);
 let v2 : Int := IntKind.u64.wrap (v1 - x1);
 let v3 : Int := IntKind.u64.wrap (v2.tdiv 65536);
 let v4 : Int := IntKind.u64.wrap (1 - v3);
 let v5 : Int := IntKind.i64.wrap (x2 + 1);
 let v6 : List Int := x5.set (mulE x2.toNat 1) (v2.tmod 65536);
 self v4 v5 x3 x4 v6
 else Option.none
 else Option.none
else k1 (Decidable.decide (x2 < 16)) x1 x2 x3 x4 x5
noncomputable def f99_0_lp {R : Type} (N : Nat) (k1 : Bool → Int → Int → List Int → List Int → List Int → Option R) : Nat → Int → Int → List Int → List Int → List Int → Option R
 | 0, _, _, _, _, _ => none
 | n + 1, x1, x2, x3, x4, x5 => f99_0_st N (f99_0_lp N k1 n) k1 x1 x2 x3 x4 x5
noncomputable def f99_0_F (N : Nat) : (R : Type) → List Leaf → (X → AS → Option R) → Option R := fun _ ls K => match ls with
 | [.i x1, .i x2, .l x3, .l x4, .l x5] => f99_0_lp N (fun y1 y2 y3 y4 y5 y6 => K (X.normal) (fill f99_0_ex1 [.b y1, .i y2, .i y3, .l y4, .l y5, .l y6])) N x1 x2 x3 x4 x5
 | _ => none
noncomputable def f99_raw {R : Type} (N : Nat) (x : List Int) (k : List DV → Option R) : Option R :=
 f99_0_lp N (fun w0_1 w0_2 w0_3 w0_4 w0_5 w0_6 => bif okD w0_6 then bif Decidable.decide (p25519 ≤ numD w0_6) then bif okD w0_6 && Decidable.decide (p25519 ≤ numD w0_6) then k [DV.v (SV.one (At.ints IntKind.u64 16 (refN (numD w0_6 - p25519))))] else Option.none else k [DV.v (SV.one (At.ints IntKind.u64 16 w0_6))] else Option.none) N 0 0 x (List.replicate 16 0) (List.replicate 16 0)


noncomputable def E99 (N : Nat) : Env := { Θ := Th, Γ := HB, K := K99, ν := N99, fuel := 0, lp := [(0, mkL N99_0 f99_0_sh (f99_0_F N))] }

theorem f99_0_st_eq {R : Type} (N : Nat) (K : X → AS → Option R) (n : Nat) (x1 : Int) (x2 : Int) (x3 : List Int) (x4 : List Int) (x5 : List Int) : roundsOf (E99 N) N99_0 0 B99_0 K (n + 1) (fill f99_0_sh [.i x1, .i x2, .l x3, .l x4, .l x5]) = f99_0_st N (fun x1 x2 x3 x4 x5 => roundsOf (E99 N) N99_0 0 B99_0 K n (fill f99_0_sh [.i x1, .i x2, .l x3, .l x4, .l x5])) (fun y1 y2 y3 y4 y5 y6 => K (X.normal) (fill f99_0_ex1 [.b y1, .i y2, .i y3, .l y4, .l y5, .l y6])) x1 x2 x3 x4 x5 := by kernel_rfl
theorem f99_0_lp_eq {R : Type} (N : Nat) (K : X → AS → Option R) : ∀ (n : Nat) (x1 : Int) (x2 : Int) (x3 : List Int) (x4 : List Int) (x5 : List Int), roundsOf (E99 N) N99_0 0 B99_0 K n (fill f99_0_sh [.i x1, .i x2, .l x3, .l x4, .l x5]) = f99_0_lp N (fun y1 y2 y3 y4 y5 y6 => K (X.normal) (fill f99_0_ex1 [.b y1, .i y2, .i y3, .l y4, .l y5, .l y6])) n x1 x2 x3 x4 x5
  | 0, _, _, _, _, _ => rfl
  | n + 1, x1, x2, x3, x4, x5 => by
    rw [f99_0_st_eq, f99_0_lp, show (fun x1 x2 x3 x4 x5 => roundsOf (E99 N) N99_0 0 B99_0 K n (fill f99_0_sh [.i x1, .i x2, .l x3, .l x4, .l x5])) = f99_0_lp N (fun y1 y2 y3 y4 y5 y6 => K (X.normal) (fill f99_0_ex1 [.b y1, .i y2, .i y3, .l y4, .l y5, .l y6])) n from by funext x1 x2 x3 x4 x5; exact f99_0_lp_eq N K n x1 x2 x3 x4 x5]
theorem f99_0_ok (N : Nat) (hlp : LoopsOk Try.prog (E99 N).lp B99_0) (hΓ : CtxOk Try.prog (E99 N).Γ) : LoopOk Try.prog (mkL N99_0 f99_0_sh (f99_0_F N)) 0 B99_0 := by
  refine loopOk_of (E := E99 N) thOk hΓ mixed hlp ?_
  intro R ls K r h
  unfold f99_0_F at h
  split at h
  · exact ⟨N, by rw [f99_0_lp_eq]; exact h⟩
  · cases h

theorem lok99_0 (N : Nat) (hΓ : CtxOk Try.prog HB) : LoopOk Try.prog (mkL N99_0 f99_0_sh (f99_0_F N)) 0 B99_0 := f99_0_ok N (loopsOk_of (l := []) (by kernel_rfl) trivial) hΓ
theorem f99_contract (N : Nat) (hΓ : CtxOk Try.prog HB) : Contract Try.prog 99 { sig := S99, impl := fun _ ds k => call (E99 N) S99 32 B99 R99 ds k } :=
  call_contract (E := E99 N) thOk hΓ mixed ok99.look ok99.body ok99.n ok99.rv ok99.name rfl (by decide) (loopsOk_of (l := [(0, B99_0)]) (by kernel_rfl) (allOk_cons (L := mkL N99_0 f99_0_sh (f99_0_F N)) rfl (lok99_0 N hΓ) trivial))
theorem f99_raw_eq {R : Type} (N : Nat) (x : List Int) (k : List DV → Option R) : call (E99 N) S99 32 B99 R99 [.v (.one (.ints .u64 16 x))] k = f99_raw N x k := by kernel_rfl
end Go.Proofs.Ytcgolglcjfknpaa

/- What rime/rimeref01.mul comes to. MADE BY PROGRAM (wip/tools/mkfn.py, EngGen.lean). -/
namespace Go.Proofs.Ytcgolglcjfknpaa
open Go Go.Eng
set_option maxRecDepth 100000
set_option linter.unusedVariables false

def f100_2_sh : Shp := { n := 38, lo := 2, slots := [(2, .one (.fix (At.ptr 2 0 Off.z 16))), (3, .one (.fix (At.ptr 3 0 Off.z 16))), (4, .one (.fix (At.ptr 4 0 Off.z 16))), (5, .one (.fix (At.own 8))), (6, .one (.int IntKind.i64)), (7, .one (.int IntKind.i64))], items := [(2, .obj [.ints IntKind.u64 16]), (3, .obj [.ints IntKind.u64 16]), (4, .obj [.ints IntKind.u64 16]), (8, .row IntKind.u64 1)] }
def f100_2_ex1 : Shp := { n := 38, lo := 2, slots := [(14, .one (.bool)), (2, .one (.fix (At.ptr 2 0 Off.z 16))), (3, .one (.fix (At.ptr 3 0 Off.z 16))), (4, .one (.fix (At.ptr 4 0 Off.z 16))), (5, .one (.fix (At.own 8))), (6, .one (.int IntKind.i64)), (7, .one (.int IntKind.i64))], items := [(2, .obj [.ints IntKind.u64 16]), (3, .obj [.ints IntKind.u64 16]), (4, .obj [.ints IntKind.u64 16]), (8, .row IntKind.u64 1)] }
noncomputable def f100_2_st {R : Type} (N : Nat) (self : Int → Int → List Int → List Int → List Int → List Int → Option R) (k1 : Bool → Int → Int → List Int → List Int → List Int → List Int → Option R) (x1 : Int) (x2 : Int) (x3 : List Int) (x4 : List Int) (x5 : List Int) (x6 : List Int) : Option R :=
 bif Decidable.decide (x2 < 16) then
 let v0 : Int := IntKind.i64.wrap (x1 + x2);
 bif Decidable.decide (0 ≤ v0) && Decidable.decide (v0 < nI (rowLen 1 x6)) then
 bif Decidable.decide (0 ≤ x1) && Decidable.decide (x1 < 16) then
 bif Decidable.decide (0 ≤ x2) && Decidable.decide (x2 < 16) then
 bif Decidable.decide (0 ≤ v0) && Decidable.decide (v0 < nI (rowLen 1 x6)) then
 let v1 : Int := IntKind.i64.wrap (x2 + 1);
 let v2 : Int := IntKind.u64.wrap (x3.getD (mulE x1.toNat 1) 0 * x4.getD (mulE x2.toNat 1) 0);
 let v3 : Int := IntKind.u64.wrap (x6.getD (mulE v0.toNat 1) 0 + v2);
 let v4 : List Int := x6.set (mulE v0.toNat 1) v3;
 self x1 v1 x3 x4 x5 v4
 else Option.none
 else Option.none
 else Option.none
 else Option.none
else k1 (Decidable.decide (x2 < 16)) x1 x2 x3 x4 x5 x6
noncomputable def f100_2_lp {R : Type} (N : Nat) (k1 : Bool → Int → Int → List Int → List Int → List Int → List Int → Option R) : Nat → Int → Int → List Int → List Int → List Int → List Int → Option R
 | 0, _, _, _, _, _, _ => none
 | n + 1, x1, x2, x3, x4, x5, x6 => f100_2_st N (f100_2_lp N k1 n) k1 x1 x2 x3 x4 x5 x6
noncomputable def f100_2_F (N : Nat) : (R : Type) → List Leaf → (X → AS → Option R) → Option R := fun _ ls K => match ls with
 | [.i x1, .i x2, .l x3, .l x4, .l x5, .l x6] => f100_2_lp N (fun y1 y2 y3 y4 y5 y6 y7 => K (X.normal) (fill f100_2_ex1 [.b y1, .i y2, .i y3, .l y4, .l y5, .l y6, .l y7])) N x1 x2 x3 x4 x5 x6
 | _ => none
def f100_0_sh : Shp := { n := 38, lo := 2, slots := [(2, .one (.fix (At.ptr 2 0 Off.z 16))), (3, .one (.fix (At.ptr 3 0 Off.z 16))), (4, .one (.fix (At.ptr 4 0 Off.z 16))), (5, .one (.fix (At.own 8))), (6, .one (.int IntKind.i64))], items := [(2, .obj [.ints IntKind.u64 16]), (3, .obj [.ints IntKind.u64 16]), (4, .obj [.ints IntKind.u64 16]), (8, .row IntKind.u64 1)] }
def f100_0_ex1 : Shp := { n := 38, lo := 2, slots := [(10, .one (.bool)), (2, .one (.fix (At.ptr 2 0 Off.z 16))), (3, .one (.fix (At.ptr 3 0 Off.z 16))), (4, .one (.fix (At.ptr 4 0 Off.z 16))), (5, .one (.fix (At.own 8))), (6, .one (.int IntKind.i64))], items := [(2, .obj [.ints IntKind.u64 16]), (3, .obj [.ints IntKind.u64 16]), (4, .obj [.ints IntKind.u64 16]), (8, .row IntKind.u64 1)] }
noncomputable def f100_0_st {R : Type} (N : Nat) (self : Int → List Int → List Int → List Int → List Int → Option R) (k1 : Bool → Int → List Int → List Int → List Int → List Int → Option R) (x1 : Int) (x2 : List Int) (x3 : List Int) (x4 : List Int) (x5 : List Int) : Option R :=
 bif Decidable.decide (x1 < 16) then
 f100_2_lp N
 (fun w0_1 w0_2 w0_3 w0_4 w0_5 w0_6 w0_7 =>
 let v1 : Int := IntKind.i64.wrap (w0_2 + 1);
 self v1 w0_4 w0_5 w0_6 w0_7)
 N x1 0 x2 x3 x4 x5
else k1 (Decidable.decide (x1 < 16)) x1 x2 x3 x4 x5
noncomputable def f100_0_lp {R : Type} (N : Nat) (k1 : Bool → Int → List Int → List Int → List Int → List Int → Option R) : Nat → Int → List Int → List Int → List Int → List Int → Option R
 | 0, _, _, _, _, _ => none
 | n + 1, x1, x2, x3, x4, x5 => f100_0_st N (f100_0_lp N k1 n) k1 x1 x2 x3 x4 x5
noncomputable def f100_0_F (N : Nat) : (R : Type) → List Leaf → (X → AS → Option R) → Option R := fun _ ls K => match ls with
 | [.i x1, .l x2, .l x3, .l x4, .l x5] => f100_0_lp N (fun y1 y2 y3 y4 y5 y6 => K (X.normal) (fill f100_0_ex1 [.b y1, .i y2, .l y3, .l y4, .l y5, .l y6])) N x1 x2 x3 x4 x5
 | _ => none
noncomputable def f100_raw {R : Type} (N : Nat) (x : List Int) (y : List Int) (k : List DV → Option R) : Option R :=
 f100_0_lp N (fun w0_1 w0_2 w0_3 w0_4 w0_5 w0_6 => bif okL w0_6 then k [DV.v (SV.one (At.ints IntKind.u64 16 (refN (numD w0_6 % p25519))))] else Option.none) N 0 x y (List.replicate 16 0) (zerosOf (mulE (Int.toNat 32) 1))


noncomputable def E100 (N : Nat) : Env := { Θ := Th, Γ := HC, K := K100, ν := N100, fuel := 0, lp := [(0, mkL N100_0 f100_0_sh (f100_0_F N)), (2, mkL N100_2 f100_2_sh (f100_2_F N))] }

theorem f100_2_st_eq {R : Type} (N : Nat) (K : X → AS → Option R) (n : Nat) (x1 : Int) (x2 : Int) (x3 : List Int) (x4 : List Int) (x5 : List Int) (x6 : List Int) : roundsOf (E100 N) N100_2 2 B100_2 K (n + 1) (fill f100_2_sh [.i x1, .i x2, .l x3, .l x4, .l x5, .l x6]) = f100_2_st N (fun x1 x2 x3 x4 x5 x6 => roundsOf (E100 N) N100_2 2 B100_2 K n (fill f100_2_sh [.i x1, .i x2, .l x3, .l x4, .l x5, .l x6])) (fun y1 y2 y3 y4 y5 y6 y7 => K (X.normal) (fill f100_2_ex1 [.b y1, .i y2, .i y3, .l y4, .l y5, .l y6, .l y7])) x1 x2 x3 x4 x5 x6 := by kernel_rfl
theorem f100_2_lp_eq {R : Type} (N : Nat) (K : X → AS → Option R) : ∀ (n : Nat) (x1 : Int) (x2 : Int) (x3 : List Int) (x4 : List Int) (x5 : List Int) (x6 : List Int), roundsOf (E100 N) N100_2 2 B100_2 K n (fill f100_2_sh [.i x1, .i x2, .l x3, .l x4, .l x5, .l x6]) = f100_2_lp N (fun y1 y2 y3 y4 y5 y6 y7 => K (X.normal) (fill f100_2_ex1 [.b y1, .i y2, .i y3, .l y4, .l y5, .l y6, .l y7])) n x1 x2 x3 x4 x5 x6
  | 0, _, _, _, _, _, _ => rfl
  | n + 1, x1, x2, x3, x4, x5, x6 => by
    rw [f100_2_st_eq, f100_2_lp, show (fun x1 x2 x3 x4 x5 x6 => roundsOf (E100 N) N100_2 2 B100_2 K n (fill f100_2_sh [.i x1, .i x2, .l x3, .l x4, .l x5, .l x6])) = f100_2_lp N (fun y1 y2 y3 y4 y5 y6 y7 => K (X.normal) (fill f100_2_ex1 [.b y1, .i y2, .i y3, .l y4, .l y5, .l y6, .l y7])) n from by funext x1 x2 x3 x4 x5 x6; exact f100_2_lp_eq N K n x1 x2 x3 x4 x5 x6]
theorem f100_2_ok (N : Nat) (hlp : LoopsOk Try.prog (E100 N).lp B100_2) (hΓ : CtxOk Try.prog (E100 N).Γ) : LoopOk Try.prog (mkL N100_2 f100_2_sh (f100_2_F N)) 2 B100_2 := by
  refine loopOk_of (E := E100 N) thOk hΓ mixed hlp ?_
  intro R ls K r h
  unfold f100_2_F at h
  split at h
  · exact ⟨N, by rw [f100_2_lp_eq]; exact h⟩
  · cases h
theorem f100_0_st_eq {R : Type} (N : Nat) (K : X → AS → Option R) (n : Nat) (x1 : Int) (x2 : List Int) (x3 : List Int) (x4 : List Int) (x5 : List Int) : roundsOf (E100 N) N100_0 0 B100_0 K (n + 1) (fill f100_0_sh [.i x1, .l x2, .l x3, .l x4, .l x5]) = f100_0_st N (fun x1 x2 x3 x4 x5 => roundsOf (E100 N) N100_0 0 B100_0 K n (fill f100_0_sh [.i x1, .l x2, .l x3, .l x4, .l x5])) (fun y1 y2 y3 y4 y5 y6 => K (X.normal) (fill f100_0_ex1 [.b y1, .i y2, .l y3, .l y4, .l y5, .l y6])) x1 x2 x3 x4 x5 := by kernel_rfl
theorem f100_0_lp_eq {R : Type} (N : Nat) (K : X → AS → Option R) : ∀ (n : Nat) (x1 : Int) (x2 : List Int) (x3 : List Int) (x4 : List Int) (x5 : List Int), roundsOf (E100 N) N100_0 0 B100_0 K n (fill f100_0_sh [.i x1, .l x2, .l x3, .l x4, .l x5]) = f100_0_lp N (fun y1 y2 y3 y4 y5 y6 => K (X.normal) (fill f100_0_ex1 [.b y1, .i y2, .l y3, .l y4, .l y5, .l y6])) n x1 x2 x3 x4 x5
  | 0, _, _, _, _, _ => rfl
  | n + 1, x1, x2, x3, x4, x5 => by
    rw [f100_0_st_eq, f100_0_lp, show (fun x1 x2 x3 x4 x5 => roundsOf (E100 N) N100_0 0 B100_0 K n (fill f100_0_sh [.i x1, .l x2, .l x3, .l x4, .l x5])) = f100_0_lp N (fun y1 y2 y3 y4 y5 y6 => K (X.normal) (fill f100_0_ex1 [.b y1, .i y2, .l y3, .l y4, .l y5, .l y6])) n from by funext x1 x2 x3 x4 x5; exact f100_0_lp_eq N K n x1 x2 x3 x4 x5]
theorem f100_0_ok (N : Nat) (hlp : LoopsOk Try.prog (E100 N).lp B100_0) (hΓ : CtxOk Try.prog (E100 N).Γ) : LoopOk Try.prog (mkL N100_0 f100_0_sh (f100_0_F N)) 0 B100_0 := by
  refine loopOk_of (E := E100 N) thOk hΓ mixed hlp ?_
  intro R ls K r h
  unfold f100_0_F at h
  split at h
  · exact ⟨N, by rw [f100_0_lp_eq]; exact h⟩
  · cases h

theorem lok100_2 (N : Nat) (hΓ : CtxOk Try.prog HC) : LoopOk Try.prog (mkL N100_2 f100_2_sh (f100_2_F N)) 2 B100_2 := f100_2_ok N (loopsOk_of (l := []) (by kernel_rfl) trivial) hΓ
theorem lok100_0 (N : Nat) (hΓ : CtxOk Try.prog HC) : LoopOk Try.prog (mkL N100_0 f100_0_sh (f100_0_F N)) 0 B100_0 := f100_0_ok N (loopsOk_of (l := [(2, B100_2)]) (by kernel_rfl) (allOk_cons (L := mkL N100_2 f100_2_sh (f100_2_F N)) rfl (lok100_2 N hΓ) trivial)) hΓ
theorem f100_contract (N : Nat) (hΓ : CtxOk Try.prog HC) : Contract Try.prog 100 { sig := S100, impl := fun _ ds k => call (E100 N) S100 38 B100 R100 ds k } :=
  call_contract (E := E100 N) thOk hΓ mixed ok100.look ok100.body ok100.n ok100.rv ok100.name rfl (by decide) (loopsOk_of (l := [(0, B100_0), (2, B100_2)]) (by kernel_rfl) (allOk_cons (L := mkL N100_0 f100_0_sh (f100_0_F N)) rfl (lok100_0 N hΓ) (allOk_cons (L := mkL N100_2 f100_2_sh (f100_2_F N)) rfl (lok100_2 N hΓ) trivial)))
theorem f100_raw_eq {R : Type} (N : Nat) (x : List Int) (y : List Int) (k : List DV → Option R) : call (E100 N) S100 38 B100 R100 [.v (.one (.ints .u64 16 x)), .v (.one (.ints .u64 16 y))] k = f100_raw N x y k := by kernel_rfl
end Go.Proofs.Ytcgolglcjfknpaa

/- The field's laws, as numbers. -/
namespace Go.Proofs.Ytcgolglcjfknpaa
open Go Go.Eng
set_option maxRecDepth 100000

theorem addN_comm (a b : Nat) : addN a b = addN b a := by rw [addN_def, addN_def, Nat.add_comm]
theorem mulN_comm (a b : Nat) : mulN a b = mulN b a := by rw [mulN_def, mulN_def, Nat.mul_comm]
theorem addN_assoc (a b c : Nat) : addN (addN a b) c = addN a (addN b c) := by
  simp only [addN_def, Nat.mod_add_mod, Nat.add_mod_mod, Nat.add_assoc]
theorem mulN_assoc (a b c : Nat) : mulN (mulN a b) c = mulN a (mulN b c) := by
  simp only [mulN_def, Nat.mod_mul_mod, Nat.mul_mod_mod, Nat.mul_assoc]
theorem mulN_add (a b c : Nat) : mulN a (addN b c) = addN (mulN a b) (mulN a c) := by
  simp only [mulN_def, addN_def, Nat.mul_mod_mod, Nat.mod_add_mod, Nat.add_mod_mod, Nat.mul_add]
theorem subN_addN {a b : Nat} (hb : b < p25519) : subN (addN a b) b = addN a 0 := by
  rw [subN_def, addN_def, addN_def]; unfold p25519 at *; omega
theorem addN_neg {a : Nat} (ha : a < p25519) : addN a (subN 0 a) = 0 := by
  rw [subN_def, addN_def]; unfold p25519 at *; omega
theorem mulN_one {a : Nat} (ha : a < p25519) : mulN a 1 = a := by
  rw [mulN_def, Nat.mul_one, Nat.mod_eq_of_lt ha]
theorem pw_zero : pw 0 pm2 = 0 := by rw [pw_pm]; decide +kernel
theorem mulN_inv {a : Nat} (ha : a < p25519) (h0 : a ≠ 0) : mulN a (pw a pm2) = 1 := by
  rw [mulN_def, pw_eq, Nat.mul_mod_mod, Nat.mul_comm, ← Nat.pow_succ]
  exact fermat prm_p (fun hd => h0 (Nat.eq_zero_of_dvd_of_lt hd ha))
end Go.Proofs.Ytcgolglcjfknpaa

/- The document's numbers: of bytes, as bytes, sums, opposites, products. -/
namespace Go.Proofs.Ytcgolglcjfknpaa
open Go Go.Eng
set_option maxRecDepth 100000
set_option linter.unusedVariables false

/-! ### of bytes -/
theorem okB_len' {x : List Int} (h : okB x = true) : x.length = 32 := by
  obtain ⟨l, rfl, hl, _⟩ := okB_of h
  rw [nats_length]; exact hl
theorem sub32' {x : List Int} (h : okB x = true) : Go.Eng.sub x (plusO Off.z 1 Option.none) (mulE (Go.Eng.subN (hiNat Option.none 32) Option.none) 1) = x := by
  show x.take 32 = x
  rw [List.take_of_length_le (Nat.le_of_eq (okB_len' h))]
theorem okE_okB' {x : List Int} (h : okB x = true) : okE x = true := by
  have hl := okB_len' h
  unfold okB at h
  rw [Bool.and_eq_true] at h
  unfold okE
  rw [h.2, decide_eq_true (by omega)]; rfl
theorem okL_digL {e : List Int} (h : e.length ≤ 63) : okL (digL e) = true := by
  rw [digL_def]
  exact okL_nats (by rw [digs_length]; omega) fun b hb => by have := digs_lt (by decide) b hb; omega
theorem numD_digL {e : List Int} (he : okE e = true) : numD (digL e) = numB e := by
  obtain ⟨_, l, rfl, hb⟩ := okE_of he
  rw [digL_def, numD_nats, digs_val, numB_nats, nats_length]
  have := valB_lt (b := 256) (by decide) hb
  refine Nat.mod_eq_of_lt (Nat.lt_of_lt_of_le this ?_)
  rw [show (65536 : Nat) = 256 ^ 2 by decide, ← Nat.pow_mul]
  exact Nat.pow_le_pow_right (by decide) (by omega)
noncomputable def I69 : (R : Type) → List DV → (List DV → Option R) → Option R := fun _ ds k => match ds with
  | [.v (.one (.ints .u8 32 x))] => bif okB x then k [.v (.one (.ints .u64 16 (refN (vB x))))] else none
  | _ => none
theorem c69 : Contract Try.prog 69 { sig := S69, impl := I69 } := by
  refine Contract.refine fun R ds k r h => ⟨_, f69_contract 0 HC_ok, ?_⟩
  unfold I69 at h
  split at h
  · rename_i x
    rcases hc : okB x with _ | _
    · rw [hc] at h; cases h
    · rw [hc, cond_true] at h
      rw [f69_raw_eq]
      unfold f69_raw
      dsimp only
      have hl := okB_len' hc
      rw [sub32' hc, okE_okB' hc, decide_eq_true (show x.length ≤ 1000000 by omega), okL_digL (by omega), numD_digL (okE_okB' hc), ← vB_def]
      exact h
  · cases h

/-! ### as bytes -/
theorem digs_pairs : ∀ (l : List Nat), (∀ x ∈ l, x < 65536) → digs 256 (2 * l.length) (valB 65536 l) = l.flatMap fun a => [a % 256, a / 256 % 256]
  | [], _ => rfl
  | a :: l, h => by
    have ha := h a (.head _)
    have ih := digs_pairs l fun x hx => h x (.tail _ hx)
    rw [List.flatMap_cons, ← ih, List.length_cons, show 2 * (l.length + 1) = 2 * l.length + 2 by omega, valB]
    simp only [digs]
    generalize valB 65536 l = V
    rw [show (a + 65536 * V) % 256 = a % 256 by omega, show (a + 65536 * V) / 256 % 256 = a / 256 % 256 by omega, show (a + 65536 * V) / 256 / 256 = V by omega]
    rfl
def backL (a0 a1 a2 a3 a4 a5 a6 a7 a8 a9 a10 a11 a12 a13 a14 a15 : Int) : List Int :=
  [a0, a1, a2, a3, a4, a5, a6, a7, a8, a9, a10, a11, a12, a13, a14, a15].flatMap fun a => [IntKind.u8.wrap a, IntKind.u8.wrap (shrI .u64 a 8)]
theorem back_eq {R : Type} (a0 a1 a2 a3 a4 a5 a6 a7 a8 a9 a10 a11 a12 a13 a14 a15 : Int) (k : List DV → Option R) : f68_raw 0 [a0, a1, a2, a3, a4, a5, a6, a7, a8, a9, a10, a11, a12, a13, a14, a15] k = k [.v (.one (.ints .u8 32 (backL a0 a1 a2 a3 a4 a5 a6 a7 a8 a9 a10 a11 a12 a13 a14 a15)))] := by kernel_rfl
theorem back_pair (l : List Nat) : (nats l).flatMap (fun a => [IntKind.u8.wrap a, IntKind.u8.wrap (shrI .u64 a 8)]) = nats (l.flatMap fun a => [a % 256, a / 256 % 256]) := by
  induction l with
  | nil => rfl
  | cons a l ih =>
    show [IntKind.u8.wrap (a : Int), IntKind.u8.wrap (shrI .u64 (a : Int) 8)] ++ (nats l).flatMap _ = _
    rw [ih, wm8, show shrI .u64 (a : Int) 8 = ((a / 2 ^ 8 : Nat) : Int) from shrN (k := .u64) (m := 8) (by decide) a, wm8]
    rfl
theorem cons_of {α : Type} {l : List α} {n : Nat} (h : l.length = n + 1) : ∃ a t, l = a :: t ∧ t.length = n := by
  cases l with
  | nil => simp at h
  | cons a t => exact ⟨a, t, rfl, by simpa using h⟩
noncomputable def I68 : (R : Type) → List DV → (List DV → Option R) → Option R := fun _ ds k => match ds with
  | [.v (.one (.ints .u64 16 x))] => bif okD x then k [.v (.one (.ints .u8 32 (feN (numD x))))] else none
  | _ => none
theorem c68 : Contract Try.prog 68 { sig := S68, impl := I68 } := by
  refine Contract.refine fun R ds k r h => ⟨_, f68_contract 0 HC_ok, ?_⟩
  unfold I68 at h
  split at h
  · rename_i x
    rcases hc : okD x with _ | _
    · rw [hc] at h; cases h
    · rw [hc, cond_true] at h
      rw [f68_raw_eq]
      obtain ⟨l, rfl, hl, hb⟩ := okD_of hc
      have hp := digs_pairs l hb
      rw [hl] at hp
      rw [numD_nats, feN_def, show (32 : Nat) = 2 * 16 from rfl, hp, ← back_pair] at h
      obtain ⟨a0, l1, rfl, k1⟩ := cons_of hl
      obtain ⟨a1, l2, rfl, k2⟩ := cons_of k1
      obtain ⟨a2, l3, rfl, k3⟩ := cons_of k2
      obtain ⟨a3, l4, rfl, k4⟩ := cons_of k3
      obtain ⟨a4, l5, rfl, k5⟩ := cons_of k4
      obtain ⟨a5, l6, rfl, k6⟩ := cons_of k5
      obtain ⟨a6, l7, rfl, k7⟩ := cons_of k6
      obtain ⟨a7, l8, rfl, k8⟩ := cons_of k7
      obtain ⟨a8, l9, rfl, k9⟩ := cons_of k8
      obtain ⟨a9, l10, rfl, k10⟩ := cons_of k9
      obtain ⟨a10, l11, rfl, k11⟩ := cons_of k10
      obtain ⟨a11, l12, rfl, k12⟩ := cons_of k11
      obtain ⟨a12, l13, rfl, k13⟩ := cons_of k12
      obtain ⟨a13, l14, rfl, k14⟩ := cons_of k13
      obtain ⟨a14, l15, rfl, k15⟩ := cons_of k14
      obtain ⟨a15, l16, rfl, k16⟩ := cons_of k15
      obtain rfl := List.eq_nil_of_length_eq_zero k16
      rw [← h]
      exact back_eq _ _ _ _ _ _ _ _ _ _ _ _ _ _ _ _ k
  · cases h

/-! ### sums -/
def addF (x y : List Nat) (i : Nat) : List Nat := (List.range 16).map fun j => if j < i then x.getD j 0 + 1 * y.getD j 0 else 0
theorem addF_len (x y : List Nat) (i : Nat) : (addF x y i).length = 16 := by simp [addF]
theorem addF_get (x y : List Nat) (i j : Nat) (hj : j < 16) : (addF x y i).getD j 0 = if j < i then x.getD j 0 + 1 * y.getD j 0 else 0 := by
  rw [List.getD_eq_getElem?_getD, List.getElem?_eq_getElem (by rw [addF_len]; exact hj), Option.getD_some]
  simp [addF]
theorem addF_set (x y : List Nat) {i : Nat} (hi : i < 16) : (addF x y i).set i (x.getD i 0 + y.getD i 0) = addF x y (i + 1) := by
  apply ext_getD (by rw [List.length_set, addF_len, addF_len])
  intro j hj
  rw [List.length_set, addF_len] at hj
  rw [getD_set (by rw [addF_len]; exact hi), addF_get _ _ _ _ hj, addF_get _ _ _ _ hj]
  by_cases h : j = i
  · subst h; rw [if_pos rfl, if_pos (by omega)]; omega
  · rw [if_neg h]
    by_cases h2 : j < i
    · rw [if_pos h2, if_pos (by omega)]
    · rw [if_neg h2, if_neg (by omega)]
theorem addF_val {x y : List Nat} (hx : x.length = 16) (hy : y.length = 16) : valB 65536 (addF x y 16) = valB 65536 x + valB 65536 y := by
  have e : addF x y 16 = (List.range 16).map fun j => x.getD j 0 + 1 * y.getD j 0 := by
    unfold addF
    apply List.map_congr_left
    intro j hj
    rw [if_pos (by simpa using hj)]
  rw [e, valB_map_add, valB_range, valB_range, List.take_of_length_le (by omega), List.take_of_length_le (by omega), Nat.one_mul]
theorem f98_in {R : Type} (N : Nat) (k1 : Bool → Int → List Int → List Int → List Int → List Int → Option R) (z : List Int) {x y : List Nat} (hx : ∀ a ∈ x, a < 65536) (hy : ∀ a ∈ y, a < 65536) :
    ∀ j i : Nat, i + j = 16 → ∀ fuel, j < fuel → f98_0_lp N k1 fuel (i : Int) (nats x) (nats y) z (nats (addF x y i)) = k1 false 16 (nats x) (nats y) z (nats (addF x y 16)) := by
  intro j
  induction j with
  | zero =>
    intro i hi fuel hf
    obtain ⟨f, rfl⟩ : ∃ f, fuel = f + 1 := ⟨fuel - 1, by omega⟩
    have : i = 16 := by omega
    subst this
    rfl
  | succ j ih =>
    intro i hi fuel hf
    obtain ⟨f, rfl⟩ : ∃ f, fuel = f + 1 := ⟨fuel - 1, by omega⟩
    have h1 := getD_lt (by decide) hx i
    have h2 := getD_lt (by decide) hy i
    show f98_0_st N (f98_0_lp N k1 f) k1 _ _ _ _ _ = _
    unfold f98_0_st
    rw [show nI (rowLen 1 (nats (addF x y i))) = 16 from by show (((nats (addF x y i)).length : Nat) : Int) = _; rw [nats_length, addF_len]; rfl]
    rw [decide_eq_true (show (i : Int) < 16 by omega), decide_eq_true (show 0 ≤ (i : Int) by omega)]
    simp only [Bool.and_self, cond_true]
    rw [show mulE (Int.toNat (i : Int)) 1 = i from rfl, nats_getD, nats_getD, wrapI (by omega) (by omega), show ((x.getD i 0 : Nat) : Int) + ((y.getD i 0 : Nat) : Int) = ((x.getD i 0 + y.getD i 0 : Nat) : Int) from rfl, w64 (by omega), nats_set, addF_set x y (by omega)]
    exact ih (i + 1) (by omega) f (by omega)
theorem mem_getD {l : List Nat} {a : Nat} (h : a ∈ l) : ∃ j, j < l.length ∧ l.getD j 0 = a := by
  obtain ⟨j, hj, rfl⟩ := List.getElem_of_mem h
  exact ⟨j, hj, by rw [List.getD_eq_getElem?_getD, List.getElem?_eq_getElem hj]; rfl⟩
noncomputable def I98 : (R : Type) → List DV → (List DV → Option R) → Option R := fun _ ds k => match ds with
  | [.v (.one (.ints .u64 16 x)), .v (.one (.ints .u64 16 y))] => bif okD x && okD y then k [.v (.one (.ints .u64 16 (refN (addN (numD x) (numD y)))))] else none
  | _ => none
theorem c98 : Contract Try.prog 98 { sig := S98, impl := I98 } := by
  refine Contract.refine fun R ds k r h => ⟨_, f98_contract 17 HC_ok, ?_⟩
  unfold I98 at h
  split at h
  · rename_i x y
    rcases hc : okD x && okD y with _ | _
    · rw [hc] at h; cases h
    · rw [hc, cond_true] at h
      rw [Bool.and_eq_true] at hc
      rw [f98_raw_eq]
      obtain ⟨l, rfl, hl, hb⟩ := okD_of hc.1
      obtain ⟨m, rfl, hm, hb2⟩ := okD_of hc.2
      rw [numD_nats, numD_nats, addN_def] at h
      unfold f98_raw
      have h0 : zerosOf (mulE (Int.toNat 16) 1) = nats (addF l m 0) := by
        unfold addF; simp [nats, zerosOf]; rfl
      rw [h0]
      refine Eq.trans (f98_in 17 _ _ hb hb2 16 0 rfl 17 (by decide)) ?_
      rw [okL_nats (by rw [addF_len]; decide) (fun b hb3 => by
        obtain ⟨j, hj, rfl⟩ := mem_getD hb3
        rw [addF_len] at hj
        rw [addF_get _ _ _ _ hj, if_pos hj]
        have h1 := getD_lt (by decide) hb j
        have h2 := getD_lt (by decide) hb2 j
        omega), cond_true, numD_nats, addF_val hl hm]
      exact h
  · cases h

/-! ### opposites -/
theorem f99_in {R : Type} (N : Nat) (k1 : Bool → Int → Int → List Int → List Int → List Int → Option R) (z : List Int) :
    ∀ (B P A T : List Nat) (b : Nat), P.length = A.length → A.length + B.length = 16 → T.length = B.length → (∀ x ∈ B, x < 65536) → b ≤ 1 → ∀ fuel, B.length < fuel →
      f99_0_lp N k1 fuel (b : Int) (A.length : Int) (nats (P ++ B)) z (nats (A ++ T)) = k1 false ((subG (pDl.drop A.length) B b).2 : Int) 16 (nats (P ++ B)) z (nats (A ++ (subG (pDl.drop A.length) B b).1)) := by
  intro B
  induction B with
  | nil =>
    intro P A T b hP hA hT _ hb fuel hf
    obtain ⟨f, rfl⟩ : ∃ f, fuel = f + 1 := ⟨fuel - 1, by omega⟩
    have hl : A.length = 16 := by simpa using hA
    have hT0 : T = [] := List.eq_nil_of_length_eq_zero (by simpa using hT)
    subst hT0
    show f99_0_st N (f99_0_lp N k1 f) k1 _ _ _ _ _ = _
    unfold f99_0_st
    rw [hl]
    rfl
  | cons x B ih =>
    intro P A T b hP hA hT hB hb fuel hf
    obtain ⟨f, rfl⟩ : ∃ f, fuel = f + 1 := ⟨fuel - 1, by omega⟩
    rw [List.length_cons] at hA hf hT
    obtain ⟨t, T, rfl⟩ : ∃ t T', T = t :: T' := by
      cases T with
      | nil => simp at hT
      | cons t T => exact ⟨t, T, rfl⟩
    rw [List.length_cons] at hT
    have hi : A.length < 16 := by omega
    have hx := hB x (.head _)
    have hq := pDl_getlt A.length
    show f99_0_st N (f99_0_lp N k1 f) k1 _ _ _ _ _ = _
    unfold f99_0_st
    rw [decide_eq_true (show (A.length : Int) < 16 by omega), decide_eq_true (show 0 ≤ (A.length : Int) by omega), cond_true, Bool.and_self, cond_true, cond_true]
    dsimp only
    rw [show (nats (P ++ x :: B)).getD (mulE (Int.toNat (A.length : Int)) 1) 0 = (x : Int) by rw [← hP]; exact ngetD, pD_get _ hi, pDl_split hi]
    generalize pDl.getD A.length 0 = q at hq
    rw [show IntKind.u64.wrap ((q : Int) + 65536) = ((q + 65536 : Nat) : Int) from w64 (n := q + 65536) (by omega)]
    rw [show ((q + 65536 : Nat) : Int) - (x : Int) = ((q + 65536 - x : Nat) : Int) by omega, w64 (n := q + 65536 - x) (by omega)]
    rw [show ((q + 65536 - x : Nat) : Int) - (b : Int) = ((q + 65536 - x - b : Nat) : Int) by omega, w64 (n := q + 65536 - x - b) (by omega)]
    have hv : q + 65536 - x - b < 131072 := by omega
    simp only [subG]
    generalize q + 65536 - x - b = v at hv
    rw [show ((v : Int).tdiv 65536) = ((v / 65536 : Nat) : Int) from rfl, w64 (n := v / 65536) (by omega), show (1 : Int) - ((v / 65536 : Nat) : Int) = ((1 - v / 65536 : Nat) : Int) by omega, w64 (n := 1 - v / 65536) (by omega)]
    rw [show ((v : Int).tmod 65536) = ((v % 65536 : Nat) : Int) from rfl, nset, wrapI (a := (A.length : Int) + 1) (by omega) (by omega)]
    have := ih (P ++ [x]) (A ++ [v % 65536]) T (1 - v / 65536) (by rw [app_len, app_len, hP]) (by rw [app_len]; omega) (by omega) (fun y hy => hB y (.tail _ hy)) (by omega) f (by omega)
    rw [app_len, ← app_cons, ← app_cons, show ((A.length + 1 : Nat) : Int) = (A.length : Int) + 1 from rfl, ← app_cons] at this
    exact this
noncomputable def I99 : (R : Type) → List DV → (List DV → Option R) → Option R := fun _ ds k => match ds with
  | [.v (.one (.ints .u64 16 x))] => bif okD x && decide (numD x < p25519) then k [.v (.one (.ints .u64 16 (refN (subN 0 (numD x)))))] else none
  | _ => none
theorem c99 : Contract Try.prog 99 { sig := S99, impl := I99 } := by
  refine Contract.refine fun R ds k r h => ⟨_, f99_contract 17 HB_ok, ?_⟩
  unfold I99 at h
  split at h
  · rename_i x
    rcases hc : okD x && decide (numD x < p25519) with _ | _
    · rw [hc] at h; cases h
    · rw [hc, cond_true] at h
      rw [Bool.and_eq_true, decide_eq_true_eq] at hc
      rw [f99_raw_eq]
      obtain ⟨l, rfl, hl, hb⟩ := okD_of hc.1
      have hlt := hc.2
      rw [numD_nats] at h hlt
      unfold f99_raw
      have h0 : List.replicate 16 (0 : Int) = nats (List.replicate 16 0) := rfl
      conv => lhs; rw [h0]
      refine Eq.trans (f99_in 17 _ _ l [] [] (List.replicate 16 0) 0 rfl (by simpa using hl) (by rw [hl]; rfl) hb (by decide) 17 (by omega)) ?_
      obtain ⟨g1, g2, g3⟩ := sub_fit (l := pDl) (m := l) (by rw [hl, pDl_len]) pDl_lt hb (by rw [pDl_val]; omega)
      rw [pDl_len] at g1
      rw [pDl_val] at g3
      show (bif okD (nats (subG pDl l 0).1) then _ else _) = _
      rw [nats_refN g1 g2, g3, okD_refN, cond_true]
      have hbig : p25519 < 2 ^ 256 := by decide
      rw [show nats ([] ++ (subG (pDl.drop ([] : List Nat).length) l 0).1) = refN (p25519 - valB 65536 l) by
        show nats (subG pDl l 0).1 = _
        rw [nats_refN g1 g2, g3]]
      rw [numD_refN (by omega), okD_refN, Bool.true_and, ← h, subN_def, Nat.zero_add]
      by_cases hz : valB 65536 l = 0
      · rw [hz, Nat.sub_zero, decide_eq_true (Nat.le_refl _), Nat.mod_self, Nat.sub_self]; rfl
      · rw [decide_eq_false (show ¬ p25519 ≤ p25519 - valB 65536 l by omega), cond_false, Nat.mod_eq_of_lt (by omega)]
  · cases h

/-! ### products -/
theorem valB_set_add (b : Nat) : ∀ (L : List Nat) (s d : Nat), s < L.length → valB b (L.set s (L.getD s 0 + d)) = valB b L + d * b ^ s
  | [], _, _, h => by simp at h
  | x :: L, 0, d, _ => by
    simp only [List.set_cons_zero, List.getD_cons_zero, valB, Nat.pow_zero, Nat.mul_one]
    omega
  | x :: L, s + 1, d, h => by
    simp only [List.set_cons_succ, List.getD_cons_succ, valB]
    rw [valB_set_add b L s d (by simpa using h), Nat.mul_add, Nat.pow_succ, Nat.mul_comm (b ^ s) b, Nat.mul_left_comm b d]
    omega
theorem drop_val (l : List Nat) {k : Nat} (h : k < l.length) : valB 65536 (l.drop k) = l.getD k 0 + 65536 * valB 65536 (l.drop (k + 1)) := by
  rw [List.drop_eq_getElem_cons h, valB, List.getD_eq_getElem?_getD, List.getElem?_eq_getElem h]; rfl
theorem set_le {L : List Nat} {s y M : Nat} (h : ∀ x ∈ L, x ≤ M) (hy : y ≤ M) : ∀ x ∈ L.set s y, x ≤ M := by
  intro x hx
  rcases List.mem_or_eq_of_mem_set hx with hx | rfl
  · exact h x hx
  · exact hy
theorem f100_inner {R : Type} (N : Nat) (k1 : Bool → Int → Int → List Int → List Int → List Int → List Int → Option R) (z : List Int) {x y : List Nat} (hx : ∀ a ∈ x, a < 65536) (hy : ∀ a ∈ y, a < 65536) (hyl : y.length = 16) {i : Nat} (hi : i < 16) :
    ∀ j k : Nat, k + j = 16 → ∀ L : List Nat, L.length = 32 → (∀ a ∈ L, a ≤ (16 * i + k) * 4294836225) → ∀ fuel, j < fuel →
      ∃ L' : List Nat, L'.length = 32 ∧ (∀ a ∈ L', a ≤ (16 * i + 16) * 4294836225) ∧ valB 65536 L' = valB 65536 L + x.getD i 0 * 65536 ^ i * (65536 ^ k * valB 65536 (y.drop k)) ∧
        f100_2_lp N k1 fuel (i : Int) (k : Int) (nats x) (nats y) z (nats L) = k1 false (i : Int) 16 (nats x) (nats y) z (nats L') := by
  intro j
  induction j with
  | zero =>
    intro k hk L hL hb fuel hf
    obtain ⟨f, rfl⟩ : ∃ f, fuel = f + 1 := ⟨fuel - 1, by omega⟩
    have : k = 16 := by omega
    subst this
    refine ⟨L, hL, hb, ?_, rfl⟩
    rw [List.drop_of_length_le (by omega)]; simp [valB]
  | succ j ih =>
    intro k hk L hL hb fuel hf
    obtain ⟨f, rfl⟩ : ∃ f, fuel = f + 1 := ⟨fuel - 1, by omega⟩
    have h1 := getD_lt (by decide) hx i
    have h2 := getD_lt (by decide) hy k
    have h3 : x.getD i 0 * y.getD k 0 ≤ 4294836225 := Nat.mul_le_mul (show x.getD i 0 ≤ 65535 by omega) (show y.getD k 0 ≤ 65535 by omega)
    have h4 : L.getD (i + k) 0 ≤ (16 * i + k) * 4294836225 := by
      obtain ⟨a, ha⟩ : ∃ a, L[i + k]? = some a := ⟨L[i + k]'(by omega), List.getElem?_eq_getElem _⟩
      rw [List.getD_eq_getElem?_getD, ha]
      exact hb a (List.mem_of_getElem? ha)
    have h5 : L.getD (i + k) 0 + x.getD i 0 * y.getD k 0 ≤ (16 * i + (k + 1)) * 4294836225 := by omega
    obtain ⟨L', g1, g2, g3, g4⟩ := ih (k + 1) (by omega) (L.set (i + k) (L.getD (i + k) 0 + x.getD i 0 * y.getD k 0)) (by rw [List.length_set]; exact hL) (set_le (fun a ha => Nat.le_trans (hb a ha) (by omega)) h5) f (by omega)
    refine ⟨L', g1, g2, ?_, ?_⟩
    · rw [g3, valB_set_add _ _ _ _ (by omega), drop_val y (k := k) (by omega), Nat.pow_add, Nat.pow_succ, Nat.mul_add, Nat.mul_add]
      rw [Nat.add_assoc]
      refine congrArg (valB 65536 L + ·) ?_
      refine congr (congrArg HAdd.hAdd ?_) ?_ <;> ac_rfl
    · rw [← g4]
      show f100_2_st N (f100_2_lp N k1 f) k1 _ _ _ _ _ _ = _
      unfold f100_2_st
      rw [show nI (rowLen 1 (nats L)) = 32 from by show (((nats L).length : Nat) : Int) = _; rw [nats_length, hL]; rfl]
      rw [wrapI (a := (i : Int) + (k : Int)) (by omega) (by omega), show (i : Int) + (k : Int) = ((i + k : Nat) : Int) from rfl]
      dsimp only
      rw [decide_eq_true (show (k : Int) < 16 by omega), decide_eq_true (show (0 : Int) ≤ ((i + k : Nat) : Int) by omega), decide_eq_true (show ((i + k : Nat) : Int) < 32 by omega), decide_eq_true (show (0 : Int) ≤ (i : Int) by omega), decide_eq_true (show (i : Int) < 16 by omega), decide_eq_true (show (0 : Int) ≤ (k : Int) by omega)]
      simp only [Bool.and_self, cond_true]
      rw [show mulE (Int.toNat (i : Int)) 1 = i from rfl, show mulE (Int.toNat (k : Int)) 1 = k from rfl, show mulE (Int.toNat ((i + k : Nat) : Int)) 1 = i + k from rfl, nats_getD, nats_getD, nats_getD, wrapI (by omega) (by omega)]
      rw [show ((x.getD i 0 : Nat) : Int) * ((y.getD k 0 : Nat) : Int) = ((x.getD i 0 * y.getD k 0 : Nat) : Int) from rfl, w64 (n := x.getD i 0 * y.getD k 0) (by omega)]
      rw [show ((L.getD (i + k) 0 : Nat) : Int) + ((x.getD i 0 * y.getD k 0 : Nat) : Int) = ((L.getD (i + k) 0 + x.getD i 0 * y.getD k 0 : Nat) : Int) from rfl, w64 (by omega), nats_set]
      rfl
theorem f100_outer {R : Type} (N : Nat) (hN : 16 < N) (k1 : Bool → Int → List Int → List Int → List Int → List Int → Option R) (z : List Int) {x y : List Nat} (hx : ∀ a ∈ x, a < 65536) (hy : ∀ a ∈ y, a < 65536) (hxl : x.length = 16) (hyl : y.length = 16) :
    ∀ j i : Nat, i + j = 16 → ∀ L : List Nat, L.length = 32 → (∀ a ∈ L, a ≤ (16 * i) * 4294836225) → ∀ fuel, j < fuel →
      ∃ L' : List Nat, L'.length = 32 ∧ (∀ a ∈ L', a ≤ 256 * 4294836225) ∧ valB 65536 L' = valB 65536 L + 65536 ^ i * valB 65536 (x.drop i) * valB 65536 y ∧
        f100_0_lp N k1 fuel (i : Int) (nats x) (nats y) z (nats L) = k1 false 16 (nats x) (nats y) z (nats L') := by
  intro j
  induction j with
  | zero =>
    intro i hi L hL hb fuel hf
    obtain ⟨f, rfl⟩ : ∃ f, fuel = f + 1 := ⟨fuel - 1, by omega⟩
    have : i = 16 := by omega
    subst this
    refine ⟨L, hL, hb, ?_, rfl⟩
    rw [List.drop_of_length_le (by omega)]; simp [valB]
  | succ j ih =>
    intro i hi L hL hb fuel hf
    obtain ⟨f, rfl⟩ : ∃ f, fuel = f + 1 := ⟨fuel - 1, by omega⟩
    obtain ⟨M, m1, m2, m3, m4⟩ := f100_inner N (fun w0_1 w0_2 w0_3 w0_4 w0_5 w0_6 w0_7 => f100_0_lp N k1 f (IntKind.i64.wrap (w0_2 + 1)) w0_4 w0_5 w0_6 w0_7) z hx hy hyl (i := i) (by omega) 16 0 rfl L hL hb N hN
    obtain ⟨L', g1, g2, g3, g4⟩ := ih (i + 1) (by omega) M m1 (fun a ha => Nat.le_trans (m2 a ha) (by omega)) f (by omega)
    refine ⟨L', g1, g2, ?_, ?_⟩
    · rw [g3, m3, drop_val x (k := i) (by omega), Nat.pow_zero, Nat.one_mul, List.drop_zero, Nat.mul_add, Nat.add_mul, Nat.pow_succ]
      rw [Nat.add_assoc]
      refine congrArg (valB 65536 L + ·) ?_
      refine congr (congrArg HAdd.hAdd ?_) ?_ <;> ac_rfl
    · rw [← g4]
      show f100_0_st N (f100_0_lp N k1 f) k1 _ _ _ _ _ = _
      unfold f100_0_st
      rw [decide_eq_true (show (i : Int) < 16 by omega), cond_true]
      refine Eq.trans m4 ?_
      rw [wrapI (by omega) (by omega)]
      rfl
noncomputable def I100 : (R : Type) → List DV → (List DV → Option R) → Option R := fun _ ds k => match ds with
  | [.v (.one (.ints .u64 16 x)), .v (.one (.ints .u64 16 y))] => bif okD x && okD y then k [.v (.one (.ints .u64 16 (refN (mulN (numD x) (numD y)))))] else none
  | _ => none
theorem c100 : Contract Try.prog 100 { sig := S100, impl := I100 } := by
  refine Contract.refine fun R ds k r h => ⟨_, f100_contract 17 HC_ok, ?_⟩
  unfold I100 at h
  split at h
  · rename_i x y
    rcases hc : okD x && okD y with _ | _
    · rw [hc] at h; cases h
    · rw [hc, cond_true] at h
      rw [Bool.and_eq_true] at hc
      rw [f100_raw_eq]
      obtain ⟨l, rfl, hl, hb⟩ := okD_of hc.1
      obtain ⟨m, rfl, hm, hb2⟩ := okD_of hc.2
      rw [numD_nats, numD_nats, mulN_def] at h
      unfold f100_raw
      have h0 : zerosOf (mulE (Int.toNat 32) 1) = nats (List.replicate 32 0) := by decide
      rw [h0]
      obtain ⟨L', g1, g2, g3, g4⟩ := f100_outer 17 (by decide) (fun w0_1 w0_2 w0_3 w0_4 w0_5 w0_6 => bif okL w0_6 then k [DV.v (SV.one (At.ints IntKind.u64 16 (refN (numD w0_6 % p25519))))] else Option.none) (List.replicate 16 0) hb hb2 hl hm 16 0 rfl (List.replicate 32 0) rfl (by decide) 17 (by decide)
      refine Eq.trans g4 ?_
      rw [show valB 65536 (List.replicate 32 0) = 0 by decide, Nat.zero_add, Nat.pow_zero, Nat.one_mul, List.drop_zero] at g3
      rw [okL_nats (by omega) (fun b hb3 => by have := g2 b hb3; omega), cond_true, numD_nats, g3]
      exact h
  · cases h
end Go.Proofs.Ytcgolglcjfknpaa

/- The document's exponents. -/
namespace Go.Proofs.Ytcgolglcjfknpaa
open Go Go.Eng
set_option maxRecDepth 100000
set_option linter.unusedVariables false
noncomputable def E77 (N : Nat) : Env := { Θ := Th, Γ := [], K := K77, ν := N77, fuel := 60, lp := [] }
theorem f77_contract (N : Nat) : Contract Try.prog 77 { sig := S77, impl := fun _ ds k => call (E77 N) S77 57 B77 R77 ds k } :=
  call_contract (E := E77 N) thOk ctxOk_nil mixed ok77.look ok77.body ok77.n ok77.rv ok77.name rfl (by decide) (loopsOk_of (l := [(0, B77_0), (2, B77_2), (4, B77_4)]) (by kernel_rfl) (allOk_skip rfl (allOk_skip rfl (allOk_skip rfl trivial))))
def exInv : List Int := [235, 255, 255, 255, 255, 255, 255, 255, 255, 255, 255, 255, 255, 255, 255, 255, 255, 255, 255, 255, 255, 255, 255, 255, 255, 255, 255, 255, 255, 255, 255, 127]
def exHalf : List Int := [246, 255, 255, 255, 255, 255, 255, 255, 255, 255, 255, 255, 255, 255, 255, 255, 255, 255, 255, 255, 255, 255, 255, 255, 255, 255, 255, 255, 255, 255, 255, 63]
def exQuar : List Int := [251, 255, 255, 255, 255, 255, 255, 255, 255, 255, 255, 255, 255, 255, 255, 255, 255, 255, 255, 255, 255, 255, 255, 255, 255, 255, 255, 255, 255, 255, 255, 31]
def exRoot : List Int := [254, 255, 255, 255, 255, 255, 255, 255, 255, 255, 255, 255, 255, 255, 255, 255, 255, 255, 255, 255, 255, 255, 255, 255, 255, 255, 255, 255, 255, 255, 255, 15]
theorem f77_exInv {R : Type} (k : List DV → Option R) : call (E77 0) S77 57 B77 R77 [.v (.one (.int .u8 2)), .v (.one (.int .i64 0))] k = k [.lst .u8 1 exInv] := by kernel_rfl
theorem f77_exHalf {R : Type} (k : List DV → Option R) : call (E77 0) S77 57 B77 R77 [.v (.one (.int .u8 1)), .v (.one (.int .i64 1))] k = k [.lst .u8 1 exHalf] := by kernel_rfl
theorem f77_exQuar {R : Type} (k : List DV → Option R) : call (E77 0) S77 57 B77 R77 [.v (.one (.int .u8 1)), .v (.one (.int .i64 2))] k = k [.lst .u8 1 exQuar] := by kernel_rfl
theorem f77_exRoot {R : Type} (k : List DV → Option R) : call (E77 0) S77 57 B77 R77 [.v (.one (.int .u8 253)), .v (.one (.int .i64 3))] k = k [.lst .u8 1 exRoot] := by kernel_rfl
noncomputable def I77 : (R : Type) → List DV → (List DV → Option R) → Option R := fun _ ds k => match ds with
  | [.v (.one (.int .u8 a)), .v (.one (.int .i64 b))] => bif decide (a = 2) && decide (b = 0) then k [.lst .u8 1 exInv] else bif decide (a = 1) && decide (b = 1) then k [.lst .u8 1 exHalf] else bif decide (a = 1) && decide (b = 2) then k [.lst .u8 1 exQuar] else bif decide (a = 253) && decide (b = 3) then k [.lst .u8 1 exRoot] else none
  | _ => none
theorem c77 : Contract Try.prog 77 { sig := S77, impl := I77 } := by
  refine Contract.refine fun R ds k r h => ⟨_, f77_contract 0, ?_⟩
  unfold I77 at h
  split at h
  · rename_i a b
    rcases hc0 : decide (a = 2) && decide (b = 0) with _ | _
    rotate_left
    · rw [hc0, cond_true] at h
      simp only [Bool.and_eq_true, decide_eq_true_eq] at hc0
      obtain ⟨rfl, rfl⟩ := hc0
      rw [f77_exInv]; exact h
    rw [hc0, cond_false] at h
    rcases hc1 : decide (a = 1) && decide (b = 1) with _ | _
    rotate_left
    · rw [hc1, cond_true] at h
      simp only [Bool.and_eq_true, decide_eq_true_eq] at hc1
      obtain ⟨rfl, rfl⟩ := hc1
      rw [f77_exHalf]; exact h
    rw [hc1, cond_false] at h
    rcases hc2 : decide (a = 1) && decide (b = 2) with _ | _
    rotate_left
    · rw [hc2, cond_true] at h
      simp only [Bool.and_eq_true, decide_eq_true_eq] at hc2
      obtain ⟨rfl, rfl⟩ := hc2
      rw [f77_exQuar]; exact h
    rw [hc2, cond_false] at h
    rcases hc3 : decide (a = 253) && decide (b = 3) with _ | _
    rotate_left
    · rw [hc3, cond_true] at h
      simp only [Bool.and_eq_true, decide_eq_true_eq] at hc3
      obtain ⟨rfl, rfl⟩ := hc3
      rw [f77_exRoot]; exact h
    rw [hc3, cond_false] at h
    cases h
  · cases h
theorem okE_exInv : okE exInv = true := by decide
theorem okE_exHalf : okE exHalf = true := by decide
theorem okE_exQuar : okE exQuar = true := by decide
theorem okE_exRoot : okE exRoot = true := by decide
theorem num_exInv : numB exInv = 57896044618658097711785492504343953926634992332820282019728792003956564819947 := by decide
theorem num_exHalf : numB exHalf = 28948022309329048855892746252171976963317496166410141009864396001978282409974 := by decide
theorem num_exQuar : numB exQuar = 14474011154664524427946373126085988481658748083205070504932198000989141204987 := by decide
theorem num_exRoot : numB exRoot = 7237005577332262213973186563042994240829374041602535252466099000494570602494 := by decide

noncomputable def HD : Ctx := (100, { sig := S100, impl := I100 }) :: (98, { sig := S98, impl := I98 }) :: (99, { sig := S99, impl := I99 }) :: (68, { sig := S68, impl := I68 }) :: (69, { sig := S69, impl := I69 }) :: (77, { sig := S77, impl := I77 }) :: (128, { sig := S128, impl := I128 }) :: (129, { sig := S129, impl := I129 }) :: (130, { sig := S130, impl := I130 }) :: (124, { sig := S124, impl := I124 }) :: (125, { sig := S125, impl := I125 }) :: []
theorem HD_ok : CtxOk Try.prog HD := ctxOk_cons ok100 rfl c100 (ctxOk_cons ok98 rfl c98 (ctxOk_cons ok99 rfl c99 (ctxOk_cons ok68 rfl c68 (ctxOk_cons ok69 rfl c69 (ctxOk_cons ok77 rfl c77 (ctxOk_cons ok128 rfl c128 (ctxOk_cons ok129 rfl c129 (ctxOk_cons ok130 rfl c130 (ctxOk_cons ok124 rfl c124 (ctxOk_cons ok125 rfl c125 ctxOk_nil))))))))))
end Go.Proofs.Ytcgolglcjfknpaa

/- What rime/rimeref01.power comes to. MADE BY PROGRAM (wip/tools/mkfn.py, EngGen.lean). -/
namespace Go.Proofs.Ytcgolglcjfknpaa
open Go Go.Eng
set_option maxRecDepth 100000
set_option linter.unusedVariables false

def f76_2_sh : Shp := { n := 36, lo := 2, slots := [(1, .one (.fix (At.own 1))), (2, .one (.fix (At.ptr 2 0 Off.z 16))), (4, .one (.fix (At.ptr 4 0 Off.z 16))), (5, .one (.fix (At.ptr 5 0 Off.z 16))), (6, .one (.int IntKind.i64)), (7, .one (.int IntKind.i64))], items := [(1, .view IntKind.u8 1), (2, .obj [.ints IntKind.u64 16]), (4, .obj [.ints IntKind.u64 16]), (5, .obj [.ints IntKind.u64 16])] }
def f76_2_ex1 : Shp := { n := 36, lo := 2, slots := [(17, .one (.bool)), (1, .one (.fix (At.own 1))), (2, .one (.fix (At.ptr 2 0 Off.z 16))), (4, .one (.fix (At.ptr 4 0 Off.z 16))), (5, .one (.fix (At.ptr 5 0 Off.z 16))), (6, .one (.int IntKind.i64)), (7, .one (.int IntKind.i64))], items := [(1, .view IntKind.u8 1), (2, .obj [.ints IntKind.u64 16]), (4, .obj [.ints IntKind.u64 16]), (5, .obj [.ints IntKind.u64 16])] }
noncomputable def f76_2_st {R : Type} (N : Nat) (self : Int → Int → List Int → List Int → List Int → List Int → Option R) (k1 : Bool → Int → Int → List Int → List Int → List Int → List Int → Option R) (x1 : Int) (x2 : Int) (x3 : List Int) (x4 : List Int) (x5 : List Int) (x6 : List Int) : Option R :=
 bif Decidable.decide (x2 ≥ 0) then
 bif okD x6 && okD x6 then
 bif Decidable.decide (0 ≤ x1) && Decidable.decide (x1 < nI (rowLen 1 x3)) then
 let v0 : Int := IntKind.u64.wrap x2;
 bif Decidable.decide (0 ≤ v0) then
 let v1 : Int := shrI IntKind.u8 (x3.getD (mulE x1.toNat 1) 0) v0;
 let v2 : Int := andI IntKind.u8 v1 1;
 bif v2 == 1 then
 bif okD (refN (mulN (numD x6) (numD x6))) && okD x4 then
 let v3 : Int := IntKind.i64.wrap (x2 - 1);
 self x1 v3 x3 x4 x5 (refN (mulN (numD (refN (mulN (numD x6) (numD x6)))) (numD x4)))
 else Option.none
 else
 let v4 : Int := IntKind.i64.wrap (x2 - 1);
 self x1 v4 x3 x4 x5 (refN (mulN (numD x6) (numD x6)))
 else Option.none
 else Option.none
 else Option.none
else k1 (Decidable.decide (x2 ≥ 0)) x1 x2 x3 x4 x5 x6
noncomputable def f76_2_lp {R : Type} (N : Nat) (k1 : Bool → Int → Int → List Int → List Int → List Int → List Int → Option R) : Nat → Int → Int → List Int → List Int → List Int → List Int → Option R
 | 0, _, _, _, _, _, _ => none
 | n + 1, x1, x2, x3, x4, x5, x6 => f76_2_st N (f76_2_lp N k1 n) k1 x1 x2 x3 x4 x5 x6
noncomputable def f76_2_F (N : Nat) : (R : Type) → List Leaf → (X → AS → Option R) → Option R := fun _ ls K => match ls with
 | [.i x1, .i x2, .l x3, .l x4, .l x5, .l x6] => f76_2_lp N (fun y1 y2 y3 y4 y5 y6 y7 => K (X.normal) (fill f76_2_ex1 [.b y1, .i y2, .i y3, .l y4, .l y5, .l y6, .l y7])) N x1 x2 x3 x4 x5 x6
 | _ => none
def f76_0_sh : Shp := { n := 36, lo := 2, slots := [(1, .one (.fix (At.own 1))), (2, .one (.fix (At.ptr 2 0 Off.z 16))), (4, .one (.fix (At.ptr 4 0 Off.z 16))), (5, .one (.fix (At.ptr 5 0 Off.z 16))), (6, .one (.int IntKind.i64))], items := [(1, .view IntKind.u8 1), (2, .obj [.ints IntKind.u64 16]), (4, .obj [.ints IntKind.u64 16]), (5, .obj [.ints IntKind.u64 16])] }
def f76_0_ex1 : Shp := { n := 36, lo := 2, slots := [(13, .one (.bool)), (1, .one (.fix (At.own 1))), (2, .one (.fix (At.ptr 2 0 Off.z 16))), (4, .one (.fix (At.ptr 4 0 Off.z 16))), (5, .one (.fix (At.ptr 5 0 Off.z 16))), (6, .one (.int IntKind.i64))], items := [(1, .view IntKind.u8 1), (2, .obj [.ints IntKind.u64 16]), (4, .obj [.ints IntKind.u64 16]), (5, .obj [.ints IntKind.u64 16])] }
noncomputable def f76_0_st {R : Type} (N : Nat) (self : Int → List Int → List Int → List Int → List Int → Option R) (k1 : Bool → Int → List Int → List Int → List Int → List Int → Option R) (x1 : Int) (x2 : List Int) (x3 : List Int) (x4 : List Int) (x5 : List Int) : Option R :=
 bif Decidable.decide (x1 ≥ 0) then
 f76_2_lp N
 (fun w0_1 w0_2 w0_3 w0_4 w0_5 w0_6 w0_7 =>
 let v1 : Int := IntKind.i64.wrap (w0_2 - 1);
 self v1 w0_4 w0_5 w0_6 w0_7)
 N x1 7 x2 x3 x4 x5
else k1 (Decidable.decide (x1 ≥ 0)) x1 x2 x3 x4 x5
noncomputable def f76_0_lp {R : Type} (N : Nat) (k1 : Bool → Int → List Int → List Int → List Int → List Int → Option R) : Nat → Int → List Int → List Int → List Int → List Int → Option R
 | 0, _, _, _, _, _ => none
 | n + 1, x1, x2, x3, x4, x5 => f76_0_st N (f76_0_lp N k1 n) k1 x1 x2 x3 x4 x5
noncomputable def f76_0_F (N : Nat) : (R : Type) → List Leaf → (X → AS → Option R) → Option R := fun _ ls K => match ls with
 | [.i x1, .l x2, .l x3, .l x4, .l x5] => f76_0_lp N (fun y1 y2 y3 y4 y5 y6 => K (X.normal) (fill f76_0_ex1 [.b y1, .i y2, .l y3, .l y4, .l y5, .l y6])) N x1 x2 x3 x4 x5
 | _ => none
noncomputable def f76_raw {R : Type} (N : Nat) (x : List Int) (e : List Int) (k : List DV → Option R) : Option R :=
 let v0 : Int := IntKind.i64.wrap (nI (rowLen 1 e) - 1);
let v1 : List Int := (List.replicate 16 0).set (mulE (Int.toNat 0) 1) 1;
f76_0_lp N (fun w2_1 w2_2 w2_3 w2_4 w2_5 w2_6 => k [DV.v (SV.one (At.ints IntKind.u64 16 w2_6))]) N v0 e x (List.replicate 16 0) v1


noncomputable def E76 (N : Nat) : Env := { Θ := Th, Γ := HD, K := K76, ν := N76, fuel := 0, lp := [(0, mkL N76_0 f76_0_sh (f76_0_F N)), (2, mkL N76_2 f76_2_sh (f76_2_F N))] }

theorem f76_2_st_eq {R : Type} (N : Nat) (K : X → AS → Option R) (n : Nat) (x1 : Int) (x2 : Int) (x3 : List Int) (x4 : List Int) (x5 : List Int) (x6 : List Int) : roundsOf (E76 N) N76_2 2 B76_2 K (n + 1) (fill f76_2_sh [.i x1, .i x2, .l x3, .l x4, .l x5, .l x6]) = f76_2_st N (fun x1 x2 x3 x4 x5 x6 => roundsOf (E76 N) N76_2 2 B76_2 K n (fill f76_2_sh [.i x1, .i x2, .l x3, .l x4, .l x5, .l x6])) (fun y1 y2 y3 y4 y5 y6 y7 => K (X.normal) (fill f76_2_ex1 [.b y1, .i y2, .i y3, .l y4, .l y5, .l y6, .l y7])) x1 x2 x3 x4 x5 x6 := by kernel_rfl
theorem f76_2_lp_eq {R : Type} (N : Nat) (K : X → AS → Option R) : ∀ (n : Nat) (x1 : Int) (x2 : Int) (x3 : List Int) (x4 : List Int) (x5 : List Int) (x6 : List Int), roundsOf (E76 N) N76_2 2 B76_2 K n (fill f76_2_sh [.i x1, .i x2, .l x3, .l x4, .l x5, .l x6]) = f76_2_lp N (fun y1 y2 y3 y4 y5 y6 y7 => K (X.normal) (fill f76_2_ex1 [.b y1, .i y2, .i y3, .l y4, .l y5, .l y6, .l y7])) n x1 x2 x3 x4 x5 x6
  | 0, _, _, _, _, _, _ => rfl
  | n + 1, x1, x2, x3, x4, x5, x6 => by
    rw [f76_2_st_eq, f76_2_lp, show (fun x1 x2 x3 x4 x5 x6 => roundsOf (E76 N) N76_2 2 B76_2 K n (fill f76_2_sh [.i x1, .i x2, .l x3, .l x4, .l x5, .l x6])) = f76_2_lp N (fun y1 y2 y3 y4 y5 y6 y7 => K (X.normal) (fill f76_2_ex1 [.b y1, .i y2, .i y3, .l y4, .l y5, .l y6, .l y7])) n from by funext x1 x2 x3 x4 x5 x6; exact f76_2_lp_eq N K n x1 x2 x3 x4 x5 x6]
theorem f76_2_ok (N : Nat) (hlp : LoopsOk Try.prog (E76 N).lp B76_2) (hΓ : CtxOk Try.prog (E76 N).Γ) : LoopOk Try.prog (mkL N76_2 f76_2_sh (f76_2_F N)) 2 B76_2 := by
  refine loopOk_of (E := E76 N) thOk hΓ mixed hlp ?_
  intro R ls K r h
  unfold f76_2_F at h
  split at h
  · exact ⟨N, by rw [f76_2_lp_eq]; exact h⟩
  · cases h
theorem f76_0_st_eq {R : Type} (N : Nat) (K : X → AS → Option R) (n : Nat) (x1 : Int) (x2 : List Int) (x3 : List Int) (x4 : List Int) (x5 : List Int) : roundsOf (E76 N) N76_0 0 B76_0 K (n + 1) (fill f76_0_sh [.i x1, .l x2, .l x3, .l x4, .l x5]) = f76_0_st N (fun x1 x2 x3 x4 x5 => roundsOf (E76 N) N76_0 0 B76_0 K n (fill f76_0_sh [.i x1, .l x2, .l x3, .l x4, .l x5])) (fun y1 y2 y3 y4 y5 y6 => K (X.normal) (fill f76_0_ex1 [.b y1, .i y2, .l y3, .l y4, .l y5, .l y6])) x1 x2 x3 x4 x5 := by kernel_rfl
theorem f76_0_lp_eq {R : Type} (N : Nat) (K : X → AS → Option R) : ∀ (n : Nat) (x1 : Int) (x2 : List Int) (x3 : List Int) (x4 : List Int) (x5 : List Int), roundsOf (E76 N) N76_0 0 B76_0 K n (fill f76_0_sh [.i x1, .l x2, .l x3, .l x4, .l x5]) = f76_0_lp N (fun y1 y2 y3 y4 y5 y6 => K (X.normal) (fill f76_0_ex1 [.b y1, .i y2, .l y3, .l y4, .l y5, .l y6])) n x1 x2 x3 x4 x5
  | 0, _, _, _, _, _ => rfl
  | n + 1, x1, x2, x3, x4, x5 => by
    rw [f76_0_st_eq, f76_0_lp, show (fun x1 x2 x3 x4 x5 => roundsOf (E76 N) N76_0 0 B76_0 K n (fill f76_0_sh [.i x1, .l x2, .l x3, .l x4, .l x5])) = f76_0_lp N (fun y1 y2 y3 y4 y5 y6 => K (X.normal) (fill f76_0_ex1 [.b y1, .i y2, .l y3, .l y4, .l y5, .l y6])) n from by funext x1 x2 x3 x4 x5; exact f76_0_lp_eq N K n x1 x2 x3 x4 x5]
theorem f76_0_ok (N : Nat) (hlp : LoopsOk Try.prog (E76 N).lp B76_0) (hΓ : CtxOk Try.prog (E76 N).Γ) : LoopOk Try.prog (mkL N76_0 f76_0_sh (f76_0_F N)) 0 B76_0 := by
  refine loopOk_of (E := E76 N) thOk hΓ mixed hlp ?_
  intro R ls K r h
  unfold f76_0_F at h
  split at h
  · exact ⟨N, by rw [f76_0_lp_eq]; exact h⟩
  · cases h

theorem lok76_2 (N : Nat) (hΓ : CtxOk Try.prog HD) : LoopOk Try.prog (mkL N76_2 f76_2_sh (f76_2_F N)) 2 B76_2 := f76_2_ok N (loopsOk_of (l := []) (by kernel_rfl) trivial) hΓ
theorem lok76_0 (N : Nat) (hΓ : CtxOk Try.prog HD) : LoopOk Try.prog (mkL N76_0 f76_0_sh (f76_0_F N)) 0 B76_0 := f76_0_ok N (loopsOk_of (l := [(2, B76_2)]) (by kernel_rfl) (allOk_cons (L := mkL N76_2 f76_2_sh (f76_2_F N)) rfl (lok76_2 N hΓ) trivial)) hΓ
theorem f76_contract (N : Nat) (hΓ : CtxOk Try.prog HD) : Contract Try.prog 76 { sig := S76, impl := fun _ ds k => call (E76 N) S76 36 B76 R76 ds k } :=
  call_contract (E := E76 N) thOk hΓ mixed ok76.look ok76.body ok76.n ok76.rv ok76.name rfl (by decide) (loopsOk_of (l := [(0, B76_0), (2, B76_2)]) (by kernel_rfl) (allOk_cons (L := mkL N76_0 f76_0_sh (f76_0_F N)) rfl (lok76_0 N hΓ) (allOk_cons (L := mkL N76_2 f76_2_sh (f76_2_F N)) rfl (lok76_2 N hΓ) trivial)))
theorem f76_raw_eq {R : Type} (N : Nat) (x : List Int) (e : List Int) (k : List DV → Option R) : call (E76 N) S76 36 B76 R76 [.v (.one (.ints .u64 16 x)), .lst .u8 1 e] k = f76_raw N x e k := by kernel_rfl
end Go.Proofs.Ytcgolglcjfknpaa

/- The document's powers. -/
namespace Go.Proofs.Ytcgolglcjfknpaa
open Go Go.Eng
set_option maxRecDepth 100000
set_option linter.unusedVariables false

theorem two255 : p25519 < 2 ^ 256 := by decide
theorem numD_ref {v : Nat} (h : v < p25519) : numD (refN v) = v := numD_refN (Nat.lt_trans h two255)
theorem numD_refm (v : Nat) : numD (refN (v % p25519)) = v % p25519 := numD_ref (Nat.mod_lt _ (by decide))
theorem f76_in {R : Type} (N : Nat) (k1 : Bool → Int → Int → List Int → List Int → List Int → List Int → Option R) (z : List Int) {x : List Int} (hx : okD x = true) {l : List Nat} (hl : ∀ b ∈ l, b < 256) (i : Nat) (hi : i < l.length) :
    ∀ j : Nat, j ≤ 8 → ∀ fuel, j < fuel → ∀ c, f76_2_lp N k1 fuel (i : Int) ((j : Int) - 1) (nats l) x z (refN (numD x ^ c % p25519)) = k1 false (i : Int) (-1) (nats l) x z (refN (numD x ^ (c * 2 ^ j + l.getD i 0 % 2 ^ j) % p25519)) := by
  intro j
  induction j with
  | zero =>
    intro _ fuel hf c
    obtain ⟨f, rfl⟩ : ∃ f, fuel = f + 1 := ⟨fuel - 1, by omega⟩
    rw [Nat.pow_zero, Nat.mul_one, Nat.mod_one, Nat.add_zero]
    rfl
  | succ j ih =>
    intro hj fuel hf c
    obtain ⟨f, rfl⟩ : ∃ f, fuel = f + 1 := ⟨fuel - 1, by omega⟩
    have hb : l.getD i 0 < 256 := getD_lt (by decide) hl i
    rw [show ((j + 1 : Nat) : Int) - 1 = (j : Int) by omega]
    show f76_2_st N (f76_2_lp N k1 f) k1 _ _ _ _ _ _ = _
    unfold f76_2_st
    rw [show nI (rowLen 1 (nats l)) = (l.length : Int) from by show (((nats l).length : Nat) : Int) = _; rw [nats_length]]
    rw [decide_eq_true (show (j : Int) ≥ 0 by omega), decide_eq_true (show (0 : Int) ≤ (i : Int) by omega), decide_eq_true (show (i : Int) < (l.length : Int) by omega), okD_refN, okD_refN, hx, w64 (n := j) (by omega), show mulE (Int.toNat (i : Int)) 1 = i from rfl, nats_getD]
    dsimp only
    rw [decide_eq_true (show (0 : Int) ≤ (j : Int) by omega), bit8 hb j (by omega), wrapI (a := (j : Int) - 1) (by omega) (by omega), numD_refm]
    simp only [Bool.and_self, cond_true]
    have hm : mulN (numD x ^ c % p25519) (numD x ^ c % p25519) = numD x ^ (2 * c) % p25519 := by
      rw [mulN_def, ← Nat.mul_mod, ← Nat.pow_add, Nat.two_mul]
    rw [hm, numD_refm]
    have hb2 : l.getD i 0 % 2 ^ (j + 1) = l.getD i 0 / 2 ^ j % 2 * 2 ^ j + l.getD i 0 % 2 ^ j := by
      rw [Nat.pow_succ, Nat.mod_mul, Nat.mul_comm, Nat.add_comm, Nat.mul_comm]
    rcases hc : (((l.getD i 0 / 2 ^ j % 2 : Nat) : Int) == 1) with _ | _
    · rw [cond_false, ih (by omega) f (by omega) (2 * c)]
      have h0 : l.getD i 0 / 2 ^ j % 2 = 0 := by
        have : ¬ l.getD i 0 / 2 ^ j % 2 = 1 := fun h => by rw [h] at hc; exact absurd hc (by decide)
        omega
      rw [hb2, h0, Nat.pow_succ, Nat.mul_comm (2 ^ j) 2, ← Nat.mul_assoc, Nat.zero_mul, Nat.zero_add, Nat.mul_comm 2 c]
    · have h1 : l.getD i 0 / 2 ^ j % 2 = 1 := by rw [beq_iff_eq] at hc; omega
      have hm2 : mulN (numD x ^ (2 * c) % p25519) (numD x) = numD x ^ (2 * c + 1) % p25519 := by
        rw [mulN_def, Nat.mod_mul_mod, ← Nat.pow_succ]
      rw [cond_true, hm2, ih (by omega) f (by omega) (2 * c + 1)]
      rw [hb2, h1, Nat.pow_succ, Nat.mul_comm (2 ^ j) 2, ← Nat.mul_assoc, Nat.one_mul, Nat.succ_mul, Nat.mul_comm 2 c, Nat.add_assoc]
theorem f76_out {R : Type} (N : Nat) (hN : 8 < N) (k1 : Bool → Int → List Int → List Int → List Int → List Int → Option R) (z : List Int) {x : List Int} (hx : okD x = true) {l : List Nat} (hl : ∀ b ∈ l, b < 256) (he : l.length < 9223372036854775808) :
    ∀ m : Nat, m ≤ l.length → ∀ fuel, m < fuel → ∀ c, f76_0_lp N k1 fuel ((m : Int) - 1) (nats l) x z (refN (numD x ^ c % p25519)) = k1 false (-1) (nats l) x z (refN (numD x ^ (c * 256 ^ m + valB 256 (l.take m)) % p25519)) := by
  intro m
  induction m with
  | zero =>
    intro _ fuel hf c
    obtain ⟨f, rfl⟩ : ∃ f, fuel = f + 1 := ⟨fuel - 1, by omega⟩
    rw [Nat.pow_zero, Nat.mul_one, List.take_zero, show valB 256 ([] : List Nat) = 0 from rfl, Nat.add_zero]
    rfl
  | succ m ih =>
    intro hm fuel hf c
    obtain ⟨f, rfl⟩ : ∃ f, fuel = f + 1 := ⟨fuel - 1, by omega⟩
    have hb : l.getD m 0 < 256 := getD_lt (by decide) hl m
    rw [show ((m + 1 : Nat) : Int) - 1 = (m : Int) by omega]
    show f76_0_st N (f76_0_lp N k1 f) k1 _ _ _ _ _ = _
    unfold f76_0_st
    rw [decide_eq_true (show (m : Int) ≥ 0 by omega), cond_true]
    refine Eq.trans (f76_in N _ z hx hl m (by omega) 8 (by decide) N hN c) ?_
    dsimp only
    rw [wrapI (a := (m : Int) - 1) (by omega) (by omega), ih (by omega) f (by omega), show (2 : Nat) ^ 8 = 256 from rfl, Nat.mod_eq_of_lt hb, take_val l (by omega)]
    rw [Nat.add_mul, Nat.pow_succ, Nat.mul_assoc, Nat.mul_comm 256 (256 ^ m), Nat.add_assoc, Nat.add_comm (l.getD m 0 * 256 ^ m)]
noncomputable def I76 : (R : Type) → List DV → (List DV → Option R) → Option R := fun _ ds k => match ds with
  | [.v (.one (.ints .u64 16 x)), .lst .u8 1 e] => bif okD x && okE e then k [.v (.one (.ints .u64 16 (refN (pw (numD x) (numB e)))))] else none
  | _ => none
theorem c76 : Contract Try.prog 76 { sig := S76, impl := I76 } := by
  refine Contract.refine fun R ds k r h => ?_
  unfold I76 at h
  split at h
  · rename_i x e
    rcases hc : okD x && okE e with _ | _
    · rw [hc] at h; cases h
    · rw [hc, cond_true] at h
      rw [Bool.and_eq_true] at hc
      refine ⟨_, f76_contract (e.length + 9) HD_ok, ?_⟩
      rw [f76_raw_eq]
      obtain ⟨he, l, rfl, hb⟩ := okE_of hc.2
      rw [nats_length] at he
      rw [numB_nats, pw_eq] at h
      rw [← h]
      unfold f76_raw
      dsimp only
      rw [show nI (rowLen 1 (nats l)) = (l.length : Int) from by show (((nats l).length : Nat) : Int) = _; rw [nats_length], wrapI (a := (l.length : Int) - 1) (by omega) (by omega)]
      rw [show (List.replicate 16 (0 : Int)).set (mulE (Int.toNat 0) 1) 1 = refN (numD x ^ 0 % p25519) by rw [Nat.pow_zero, refN_def]; decide]
      refine Eq.trans (f76_out _ (by omega) _ _ hc.1 hb he l.length (Nat.le_refl _) _ (by rw [nats_length]; omega) 0) ?_
      rw [Nat.zero_mul, Nat.zero_add, List.take_length]
  · cases h

noncomputable def HE : Ctx := (76, { sig := S76, impl := I76 }) :: (100, { sig := S100, impl := I100 }) :: (98, { sig := S98, impl := I98 }) :: (99, { sig := S99, impl := I99 }) :: (68, { sig := S68, impl := I68 }) :: (69, { sig := S69, impl := I69 }) :: (77, { sig := S77, impl := I77 }) :: (129, { sig := S129, impl := I129 }) :: (125, { sig := S125, impl := I125 }) :: (124, { sig := S124, impl := I124 }) :: []
theorem HE_ok : CtxOk Try.prog HE := ctxOk_cons ok76 rfl c76 (ctxOk_cons ok100 rfl c100 (ctxOk_cons ok98 rfl c98 (ctxOk_cons ok99 rfl c99 (ctxOk_cons ok68 rfl c68 (ctxOk_cons ok69 rfl c69 (ctxOk_cons ok77 rfl c77 (ctxOk_cons ok129 rfl c129 (ctxOk_cons ok125 rfl c125 (ctxOk_cons ok124 rfl c124 ctxOk_nil)))))))))

end Go.Proofs.Ytcgolglcjfknpaa

/- What rime/rimeref01.Add comes to. MADE BY PROGRAM (wip/tools/mkfn.py, EngGen.lean). -/
namespace Go.Proofs.Ytcgolglcjfknpaa
open Go Go.Eng
set_option maxRecDepth 100000
set_option linter.unusedVariables false

noncomputable def f44_raw {R : Type} (N : Nat) (x : List Int) (y : List Int) (k : List DV → Option R) : Option R :=
 bif okB x then bif okB y then bif okD (refN (vB x)) && okD (refN (vB y)) then bif okD (refN (addN (numD (refN (vB x))) (numD (refN (vB y))))) then k [DV.v (SV.one (At.ints IntKind.u8 32 (feN (numD (refN (addN (numD (refN (vB x))) (numD (refN (vB y)))))))))] else Option.none else Option.none else Option.none else Option.none


noncomputable def E44 (N : Nat) : Env := { Θ := Th, Γ := HE, K := K44, ν := N44, fuel := 60, lp := [] }


theorem f44_contract (N : Nat) (hΓ : CtxOk Try.prog HE) : Contract Try.prog 44 { sig := S44, impl := fun _ ds k => call (E44 N) S44 11 B44 R44 ds k } :=
  call_contract (E := E44 N) thOk hΓ mixed ok44.look ok44.body ok44.n ok44.rv ok44.name rfl (by decide) (loopsOk_of (l := []) (by kernel_rfl) trivial)
theorem f44_raw_eq {R : Type} (N : Nat) (x : List Int) (y : List Int) (k : List DV → Option R) : call (E44 N) S44 11 B44 R44 [.v (.one (.ints .u8 32 x)), .v (.one (.ints .u8 32 y))] k = f44_raw N x y k := by kernel_rfl
end Go.Proofs.Ytcgolglcjfknpaa

/- What rime/rimeref01.Sub comes to. MADE BY PROGRAM (wip/tools/mkfn.py, EngGen.lean). -/
namespace Go.Proofs.Ytcgolglcjfknpaa
open Go Go.Eng
set_option maxRecDepth 100000
set_option linter.unusedVariables false

noncomputable def f46_raw {R : Type} (N : Nat) (x : List Int) (y : List Int) (k : List DV → Option R) : Option R :=
 bif okB x then bif okB y then bif okD (refN (vB y)) && Decidable.decide (numD (refN (vB y)) < p25519) then bif okD (refN (vB x)) && okD (refN (subN 0 (numD (refN (vB y))))) then bif okD (refN (addN (numD (refN (vB x))) (numD (refN (subN 0 (numD (refN (vB y)))))))) then k [DV.v (SV.one (At.ints IntKind.u8 32 (feN (numD (refN (addN (numD (refN (vB x))) (numD (refN (subN 0 (numD (refN (vB y))))))))))))] else Option.none else Option.none else Option.none else Option.none else Option.none


noncomputable def E46 (N : Nat) : Env := { Θ := Th, Γ := HE, K := K46, ν := N46, fuel := 60, lp := [] }


theorem f46_contract (N : Nat) (hΓ : CtxOk Try.prog HE) : Contract Try.prog 46 { sig := S46, impl := fun _ ds k => call (E46 N) S46 12 B46 R46 ds k } :=
  call_contract (E := E46 N) thOk hΓ mixed ok46.look ok46.body ok46.n ok46.rv ok46.name rfl (by decide) (loopsOk_of (l := []) (by kernel_rfl) trivial)
theorem f46_raw_eq {R : Type} (N : Nat) (x : List Int) (y : List Int) (k : List DV → Option R) : call (E46 N) S46 12 B46 R46 [.v (.one (.ints .u8 32 x)), .v (.one (.ints .u8 32 y))] k = f46_raw N x y k := by kernel_rfl
end Go.Proofs.Ytcgolglcjfknpaa

/- What rime/rimeref01.Neg comes to. MADE BY PROGRAM (wip/tools/mkfn.py, EngGen.lean). -/
namespace Go.Proofs.Ytcgolglcjfknpaa
open Go Go.Eng
set_option maxRecDepth 100000
set_option linter.unusedVariables false

noncomputable def f47_raw {R : Type} (N : Nat) (x : List Int) (k : List DV → Option R) : Option R :=
 bif okB x then bif okD (refN (vB x)) && Decidable.decide (numD (refN (vB x)) < p25519) then bif okD (refN (subN 0 (numD (refN (vB x))))) then k [DV.v (SV.one (At.ints IntKind.u8 32 (feN (numD (refN (subN 0 (numD (refN (vB x)))))))))] else Option.none else Option.none else Option.none


noncomputable def E47 (N : Nat) : Env := { Θ := Th, Γ := HE, K := K47, ν := N47, fuel := 60, lp := [] }


theorem f47_contract (N : Nat) (hΓ : CtxOk Try.prog HE) : Contract Try.prog 47 { sig := S47, impl := fun _ ds k => call (E47 N) S47 7 B47 R47 ds k } :=
  call_contract (E := E47 N) thOk hΓ mixed ok47.look ok47.body ok47.n ok47.rv ok47.name rfl (by decide) (loopsOk_of (l := []) (by kernel_rfl) trivial)
theorem f47_raw_eq {R : Type} (N : Nat) (x : List Int) (k : List DV → Option R) : call (E47 N) S47 7 B47 R47 [.v (.one (.ints .u8 32 x))] k = f47_raw N x k := by kernel_rfl
end Go.Proofs.Ytcgolglcjfknpaa

/- What rime/rimeref01.Mul comes to. MADE BY PROGRAM (wip/tools/mkfn.py, EngGen.lean). -/
namespace Go.Proofs.Ytcgolglcjfknpaa
open Go Go.Eng
set_option maxRecDepth 100000
set_option linter.unusedVariables false

noncomputable def f50_raw {R : Type} (N : Nat) (x : List Int) (y : List Int) (k : List DV → Option R) : Option R :=
 bif okB x then bif okB y then bif okD (refN (vB x)) && okD (refN (vB y)) then bif okD (refN (mulN (numD (refN (vB x))) (numD (refN (vB y))))) then k [DV.v (SV.one (At.ints IntKind.u8 32 (feN (numD (refN (mulN (numD (refN (vB x))) (numD (refN (vB y)))))))))] else Option.none else Option.none else Option.none else Option.none


noncomputable def E50 (N : Nat) : Env := { Θ := Th, Γ := HE, K := K50, ν := N50, fuel := 60, lp := [] }


theorem f50_contract (N : Nat) (hΓ : CtxOk Try.prog HE) : Contract Try.prog 50 { sig := S50, impl := fun _ ds k => call (E50 N) S50 11 B50 R50 ds k } :=
  call_contract (E := E50 N) thOk hΓ mixed ok50.look ok50.body ok50.n ok50.rv ok50.name rfl (by decide) (loopsOk_of (l := []) (by kernel_rfl) trivial)
theorem f50_raw_eq {R : Type} (N : Nat) (x : List Int) (y : List Int) (k : List DV → Option R) : call (E50 N) S50 11 B50 R50 [.v (.one (.ints .u8 32 x)), .v (.one (.ints .u8 32 y))] k = f50_raw N x y k := by kernel_rfl
end Go.Proofs.Ytcgolglcjfknpaa

/- What rime/rimeref01.Invert comes to. MADE BY PROGRAM (wip/tools/mkfn.py, EngGen.lean). -/
namespace Go.Proofs.Ytcgolglcjfknpaa
open Go Go.Eng
set_option maxRecDepth 100000
set_option linter.unusedVariables false

noncomputable def f26_raw {R : Type} (N : Nat) (x : List Int) (k : List DV → Option R) : Option R :=
 bif okB x then bif okD (refN (vB x)) && okE exInv then bif okD (refN (pw (numD (refN (vB x))) (numB exInv))) then k [DV.v (SV.one (At.ints IntKind.u8 32 (feN (numD (refN (pw (numD (refN (vB x))) (numB exInv)))))))] else Option.none else Option.none else Option.none


noncomputable def E26 (N : Nat) : Env := { Θ := Th, Γ := HE, K := K26, ν := N26, fuel := 60, lp := [] }


theorem f26_contract (N : Nat) (hΓ : CtxOk Try.prog HE) : Contract Try.prog 26 { sig := S26, impl := fun _ ds k => call (E26 N) S26 8 B26 R26 ds k } :=
  call_contract (E := E26 N) thOk hΓ mixed ok26.look ok26.body ok26.n ok26.rv ok26.name rfl (by decide) (loopsOk_of (l := []) (by kernel_rfl) trivial)
theorem f26_raw_eq {R : Type} (N : Nat) (x : List Int) (k : List DV → Option R) : call (E26 N) S26 8 B26 R26 [.v (.one (.ints .u8 32 x))] k = f26_raw N x k := by kernel_rfl
end Go.Proofs.Ytcgolglcjfknpaa

/- What rime/rimeref01.Power comes to. MADE BY PROGRAM (wip/tools/mkfn.py, EngGen.lean). -/
namespace Go.Proofs.Ytcgolglcjfknpaa
open Go Go.Eng
set_option maxRecDepth 100000
set_option linter.unusedVariables false

noncomputable def f28_raw {R : Type} (N : Nat) (x : List Int) (e : List Int) (k : List DV → Option R) : Option R :=
 bif okB x then bif okD (refN (vB x)) && okE e then bif okD (refN (pw (numD (refN (vB x))) (numB e))) then k [DV.v (SV.one (At.ints IntKind.u8 32 (feN (numD (refN (pw (numD (refN (vB x))) (numB e)))))))] else Option.none else Option.none else Option.none


noncomputable def E28 (N : Nat) : Env := { Θ := Th, Γ := HE, K := K28, ν := N28, fuel := 60, lp := [] }


theorem f28_contract (N : Nat) (hΓ : CtxOk Try.prog HE) : Contract Try.prog 28 { sig := S28, impl := fun _ ds k => call (E28 N) S28 10 B28 R28 ds k } :=
  call_contract (E := E28 N) thOk hΓ mixed ok28.look ok28.body ok28.n ok28.rv ok28.name rfl (by decide) (loopsOk_of (l := []) (by kernel_rfl) trivial)
theorem f28_raw_eq {R : Type} (N : Nat) (x : List Int) (e : List Int) (k : List DV → Option R) : call (E28 N) S28 10 B28 R28 [.v (.one (.ints .u8 32 x)), .lst .u8 1 e] k = f28_raw N x e k := by kernel_rfl
end Go.Proofs.Ytcgolglcjfknpaa

/- What rime/rimeref01.Legendre comes to. MADE BY PROGRAM (wip/tools/mkfn.py, EngGen.lean). -/
namespace Go.Proofs.Ytcgolglcjfknpaa
open Go Go.Eng
set_option maxRecDepth 100000
set_option linter.unusedVariables false

noncomputable def f29_raw {R : Type} (N : Nat) (x : List Int) (k : List DV → Option R) : Option R :=
 bif okB x then
 bif okD (refN (vB x)) && okE exHalf then
 bif Decidable.decide (refN (pw (numD (refN (vB x))) (numB exHalf)) = List.replicate 16 0) then k [DV.v (SV.one (At.int IntKind.i64 0))]
 else
 let v0 : List Int := (List.replicate 16 0).set (mulE (Int.toNat 0) 1) 1;
 bif Decidable.decide (refN (pw (numD (refN (vB x))) (numB exHalf)) = v0) then k [DV.v (SV.one (At.int IntKind.i64 1))] else k [DV.v (SV.one (At.int IntKind.i64 (-1)))]
 else Option.none
else Option.none


noncomputable def E29 (N : Nat) : Env := { Θ := Th, Γ := HE, K := K29, ν := N29, fuel := 60, lp := [] }


theorem f29_contract (N : Nat) (hΓ : CtxOk Try.prog HE) : Contract Try.prog 29 { sig := S29, impl := fun _ ds k => call (E29 N) S29 17 B29 R29 ds k } :=
  call_contract (E := E29 N) thOk hΓ mixed ok29.look ok29.body ok29.n ok29.rv ok29.name rfl (by decide) (loopsOk_of (l := []) (by kernel_rfl) trivial)
theorem f29_raw_eq {R : Type} (N : Nat) (x : List Int) (k : List DV → Option R) : call (E29 N) S29 17 B29 R29 [.v (.one (.ints .u8 32 x))] k = f29_raw N x k := by kernel_rfl
end Go.Proofs.Ytcgolglcjfknpaa

/- What rime/rimeref01.IsNegative comes to. MADE BY PROGRAM (wip/tools/mkfn.py, EngGen.lean). -/
namespace Go.Proofs.Ytcgolglcjfknpaa
open Go Go.Eng
set_option maxRecDepth 100000
set_option linter.unusedVariables false

noncomputable def f31_raw {R : Type} (N : Nat) (x : List Int) (k : List DV → Option R) : Option R :=
 bif okB x then k [DV.v (SV.one (At.bool (((refN (vB x)).getD (Int.toNat 0) 0).tmod 2 == 1)))] else Option.none


noncomputable def E31 (N : Nat) : Env := { Θ := Th, Γ := HE, K := K31, ν := N31, fuel := 60, lp := [] }


theorem f31_contract (N : Nat) (hΓ : CtxOk Try.prog HE) : Contract Try.prog 31 { sig := S31, impl := fun _ ds k => call (E31 N) S31 8 B31 R31 ds k } :=
  call_contract (E := E31 N) thOk hΓ mixed ok31.look ok31.body ok31.n ok31.rv ok31.name rfl (by decide) (loopsOk_of (l := []) (by kernel_rfl) trivial)
theorem f31_raw_eq {R : Type} (N : Nat) (x : List Int) (k : List DV → Option R) : call (E31 N) S31 8 B31 R31 [.v (.one (.ints .u8 32 x))] k = f31_raw N x k := by kernel_rfl
end Go.Proofs.Ytcgolglcjfknpaa

/- What rime/rimeref01.Reduce comes to. MADE BY PROGRAM (wip/tools/mkfn.py, EngGen.lean). -/
namespace Go.Proofs.Ytcgolglcjfknpaa
open Go Go.Eng
set_option maxRecDepth 100000
set_option linter.unusedVariables false

noncomputable def f71_raw {R : Type} (N : Nat) (e : List Int) (k : List DV → Option R) : Option R :=
 bif okE e && Decidable.decide (e.length ≤ 1000000) then bif okL (digL e) then bif okD (refN (numD (digL e) % p25519)) then k [DV.v (SV.one (At.ints IntKind.u8 32 (feN (numD (refN (numD (digL e) % p25519))))))] else Option.none else Option.none else Option.none


noncomputable def E71 (N : Nat) : Env := { Θ := Th, Γ := HE, K := K71, ν := N71, fuel := 60, lp := [] }


theorem f71_contract (N : Nat) (hΓ : CtxOk Try.prog HE) : Contract Try.prog 71 { sig := S71, impl := fun _ ds k => call (E71 N) S71 7 B71 R71 ds k } :=
  call_contract (E := E71 N) thOk hΓ mixed ok71.look ok71.body ok71.n ok71.rv ok71.name rfl (by decide) (loopsOk_of (l := []) (by kernel_rfl) trivial)
theorem f71_raw_eq {R : Type} (N : Nat) (e : List Int) (k : List DV → Option R) : call (E71 N) S71 7 B71 R71 [.lst .u8 1 e] k = f71_raw N e k := by kernel_rfl
end Go.Proofs.Ytcgolglcjfknpaa

/- What rime/rimeref01.FromInt comes to. MADE BY PROGRAM (wip/tools/mkfn.py, EngGen.lean). -/
namespace Go.Proofs.Ytcgolglcjfknpaa
open Go Go.Eng
set_option maxRecDepth 100000
set_option linter.unusedVariables false

noncomputable def f96_raw {R : Type} (N : Nat) (x : Int) (k : List DV → Option R) : Option R :=
 let v0 : Int := IntKind.i64.wrap (8 * 0);
let v1 : Int := IntKind.u64.wrap v0;
let v2 : Int := shrI IntKind.u64 x v1;
let v3 : Int := IntKind.u8.wrap v2;
let v4 : List Int := (List.replicate 32 0).set (mulE (Int.toNat 0) 1) v3;
let v5 : Int := IntKind.i64.wrap (0 + 1);
let v6 : Int := IntKind.i64.wrap (8 * v5);
let v7 : Int := IntKind.u64.wrap v6;
let v8 : Int := shrI IntKind.u64 x v7;
let v9 : Int := IntKind.u8.wrap v8;
let v10 : List Int := v4.set (mulE v5.toNat 1) v9;
let v11 : Int := IntKind.i64.wrap (v5 + 1);
let v12 : Int := IntKind.i64.wrap (8 * v11);
let v13 : Int := IntKind.u64.wrap v12;
let v14 : Int := shrI IntKind.u64 x v13;
let v15 : Int := IntKind.u8.wrap v14;
let v16 : List Int := v10.set (mulE v11.toNat 1) v15;
let v17 : Int := IntKind.i64.wrap (v11 + 1);
let v18 : Int := IntKind.i64.wrap (8 * v17);
let v19 : Int := IntKind.u64.wrap v18;
let v20 : Int := shrI IntKind.u64 x v19;
let v21 : Int := IntKind.u8.wrap v20;
let v22 : List Int := v16.set (mulE v17.toNat 1) v21;
let v23 : Int := IntKind.i64.wrap (v17 + 1);
let v24 : Int := IntKind.i64.wrap (8 * v23);
let v25 : Int := IntKind.u64.wrap v24;
let v26 : Int := shrI IntKind.u64 x v25;
let v27 : Int := IntKind.u8.wrap v26;
let v28 : List Int := v22.set (mulE v23.toNat 1) v27;
let v29 : Int := IntKind.i64.wrap (v23 + 1);
let v30 : Int := IntKind.i64.wrap (8 * v29);
let v31 : Int := IntKind.u64.wrap v30;
let v32 : Int := shrI IntKind.u64 x v31;
let v33 : Int := IntKind.u8.wrap v32;
let v34 : List Int := v28.set (mulE v29.toNat 1) v33;
let v35 : Int := IntKind.i64.wrap (v29 + 1);
let v36 : Int := IntKind.i64.wrap (8 * v35);
let v37 : Int := IntKind.u64.wrap v36;
let v38 : Int := shrI IntKind.u64 x v37;
let v39 : Int := IntKind.u8.wrap v38;
let v40 : List Int := v34.set (mulE v35.toNat 1) v39;
let v41 : Int := IntKind.i64.wrap (v35 + 1);
let v42 : Int := IntKind.i64.wrap (8 * v41);
let v43 : Int := IntKind.u64.wrap v42;
let v44 : Int := shrI IntKind.u64 x v43;
let v45 : Int := IntKind.u8.wrap v44;
let v46 : List Int := v40.set (mulE v41.toNat 1) v45;
bif okB v46 then bif okD (refN (vB v46)) then k [DV.v (SV.one (At.ints IntKind.u8 32 (feN (numD (refN (vB v46))))))] else Option.none else Option.none


noncomputable def E96 (N : Nat) : Env := { Θ := Th, Γ := HE, K := K96, ν := N96, fuel := 60, lp := [] }


theorem f96_contract (N : Nat) (hΓ : CtxOk Try.prog HE) : Contract Try.prog 96 { sig := S96, impl := fun _ ds k => call (E96 N) S96 20 B96 R96 ds k } :=
  call_contract (E := E96 N) thOk hΓ mixed ok96.look ok96.body ok96.n ok96.rv ok96.name rfl (by decide) (loopsOk_of (l := [(0, B96_0)]) (by kernel_rfl) (allOk_skip rfl trivial))
theorem f96_raw_eq {R : Type} (N : Nat) (x : Int) (k : List DV → Option R) : call (E96 N) S96 20 B96 R96 [.v (.one (.int .u64 x))] k = f96_raw N x k := by kernel_rfl
end Go.Proofs.Ytcgolglcjfknpaa

/- What rime/rimeref01.Equal comes to. MADE BY PROGRAM (wip/tools/mkfn.py, EngGen.lean). -/
namespace Go.Proofs.Ytcgolglcjfknpaa
open Go Go.Eng
set_option maxRecDepth 100000
set_option linter.unusedVariables false

noncomputable def f52_raw {R : Type} (N : Nat) (x : List Int) (y : List Int) (k : List DV → Option R) : Option R :=
 bif okB x then bif okB y then k [DV.v (SV.one (At.bool (Decidable.decide (refN (vB x) = refN (vB y)))))] else Option.none else Option.none


noncomputable def E52 (N : Nat) : Env := { Θ := Th, Γ := HE, K := K52, ν := N52, fuel := 60, lp := [] }


theorem f52_contract (N : Nat) (hΓ : CtxOk Try.prog HE) : Contract Try.prog 52 { sig := S52, impl := fun _ ds k => call (E52 N) S52 10 B52 R52 ds k } :=
  call_contract (E := E52 N) thOk hΓ mixed ok52.look ok52.body ok52.n ok52.rv ok52.name rfl (by decide) (loopsOk_of (l := []) (by kernel_rfl) trivial)
theorem f52_raw_eq {R : Type} (N : Nat) (x : List Int) (y : List Int) (k : List DV → Option R) : call (E52 N) S52 10 B52 R52 [.v (.one (.ints .u8 32 x)), .v (.one (.ints .u8 32 y))] k = f52_raw N x y k := by kernel_rfl
end Go.Proofs.Ytcgolglcjfknpaa

/- What rime/rimeref01.Select comes to. MADE BY PROGRAM (wip/tools/mkfn.py, EngGen.lean). -/
namespace Go.Proofs.Ytcgolglcjfknpaa
open Go Go.Eng
set_option maxRecDepth 100000
set_option linter.unusedVariables false

noncomputable def f54_raw {R : Type} (N : Nat) (x : List Int) (y : List Int) (c : Bool) (k : List DV → Option R) : Option R :=
 bif c then bif okB y then bif okD (refN (vB y)) then k [DV.v (SV.one (At.ints IntKind.u8 32 (feN (numD (refN (vB y))))))] else Option.none else Option.none else bif okB x then bif okD (refN (vB x)) then k [DV.v (SV.one (At.ints IntKind.u8 32 (feN (numD (refN (vB x))))))] else Option.none else Option.none


noncomputable def E54 (N : Nat) : Env := { Θ := Th, Γ := HE, K := K54, ν := N54, fuel := 60, lp := [] }


theorem f54_contract (N : Nat) (hΓ : CtxOk Try.prog HE) : Contract Try.prog 54 { sig := S54, impl := fun _ ds k => call (E54 N) S54 14 B54 R54 ds k } :=
  call_contract (E := E54 N) thOk hΓ mixed ok54.look ok54.body ok54.n ok54.rv ok54.name rfl (by decide) (loopsOk_of (l := []) (by kernel_rfl) trivial)
theorem f54_raw_eq {R : Type} (N : Nat) (x : List Int) (y : List Int) (c : Bool) (k : List DV → Option R) : call (E54 N) S54 14 B54 R54 [.v (.one (.ints .u8 32 x)), .v (.one (.ints .u8 32 y)), .v (.one (.bool c))] k = f54_raw N x y c k := by kernel_rfl
end Go.Proofs.Ytcgolglcjfknpaa

/- Squares modulo a prime: Euler, and roots where the prime is 5 modulo 8. Plain numbers, no program. -/
namespace Go.Eng

theorem sq_aux {p x y : Nat} (hp : Prm p) (hx : x < p) (hle : y ≤ x) (h : x * x % p = y * y % p) : x = y ∨ x + y = p := by
  have hd : p ∣ x * x - y * y := dvd_of_mods h.symm
  rw [Nat.mul_self_sub_mul_self_eq] at hd
  rcases hp.dvd_mul hd with h1 | h1
  · obtain ⟨k, hk⟩ := h1
    match k, hk with
    | 0, hk => left; omega
    | 1, hk => right; omega
    | k + 2, hk =>
      have : p * 2 ≤ p * (k + 2) := Nat.mul_le_mul_left p (by omega)
      omega
  · left
    have := Nat.eq_zero_of_dvd_of_lt h1 (by omega)
    omega

theorem sq_eq {p x y : Nat} (hp : Prm p) (hx : x < p) (hy : y < p) (h : x * x % p = y * y % p) : x = y ∨ x + y = p := by
  rcases Nat.le_total y x with hle | hle
  · exact sq_aux hp hx hle h
  · rcases sq_aux hp hy hle h.symm with h | h
    · exact .inl h.symm
    · right; omega

theorem sq_one {p x : Nat} (hp : Prm p) (hx : x < p) (h : x * x % p = 1) : x = 1 ∨ x = p - 1 := by
  have h2 := hp.1
  rcases sq_eq hp hx (show 1 < p by omega) (by rw [h, Nat.mul_one, Nat.mod_eq_of_lt (by omega)]) with h | h
  · exact .inl h
  · right; omega

theorem pow_not_dvd {p a : Nat} (hp : Prm p) (ha : ¬ p ∣ a) : ∀ n, ¬ p ∣ a ^ n
  | 0 => fun h => by
    rw [Nat.pow_zero] at h
    have h1 := Nat.le_of_dvd (by decide) h
    have h2 := hp.1
    omega
  | n + 1 => fun h => by
    rw [Nat.pow_succ] at h
    rcases hp.dvd_mul h with h | h
    · exact pow_not_dvd hp ha n h
    · exact ha h

theorem mod_pos {p a : Nat} (ha : ¬ p ∣ a) : a % p ≠ 0 := fun h => ha (Nat.dvd_of_mod_eq_zero h)

/-- Euler -/
theorem euler {p a h : Nat} (hp : Prm p) (hh : p = 2 * h + 1) (ha : ¬ p ∣ a) : a ^ h % p = 1 ∨ a ^ h % p = p - 1 := by
  have h2 := hp.1
  refine sq_one hp (Nat.mod_lt _ (by omega)) ?_
  rw [← Nat.mul_mod, ← Nat.pow_add, show h + h = p - 1 by omega]
  exact fermat hp ha

theorem neg_sq {p x : Nat} (hx : x ≤ p) : (p - x) * (p - x) % p = x * x % p := by
  obtain ⟨d, rfl⟩ : ∃ d, p = x + d := ⟨p - x, by omega⟩
  rw [Nat.add_sub_cancel_left]
  rcases Nat.le_total x d with h | h
  · refine (mods_of_dvd (Nat.mul_self_le_mul_self h) ?_).symm
    rw [Nat.mul_self_sub_mul_self_eq, Nat.add_comm]; exact Nat.dvd_mul_right _ _
  · refine mods_of_dvd (Nat.mul_self_le_mul_self h) ?_
    rw [Nat.mul_self_sub_mul_self_eq]; exact Nat.dvd_mul_right _ _

/-- the root that is tried: its square times v is u times a power -/
theorem root_sq (u v e : Nat) : (u * (v * v * v)) * ((u * (v * v * v)) * (v * v * v) * v) ^ e * ((u * (v * v * v)) * ((u * (v * v * v)) * (v * v * v) * v) ^ e) * v = u * (u * (v * v * v) * (v * v * v) * v) ^ (2 * e + 1) := by
  generalize hy : v * v * v = y
  rw [Nat.pow_succ, Nat.mul_comm 2 e, Nat.pow_mul]
  generalize hz : (u * y * y * v) ^ e = z
  rw [show z ^ 2 = z * z by rw [Nat.pow_succ, Nat.pow_one]]
  ac_rfl

/-- a fourth root of one, and which it is -/
theorem fourth {p w i : Nat} (hp : Prm p) (hw : w < p) (hi : i < p) (hii : i * i % p = p - 1) (h4 : w * w % p * (w * w % p) % p = 1) :
    (w * w % p = 1 ∧ (w = 1 ∨ w = p - 1)) ∨ (w * w % p = p - 1 ∧ (w = i ∨ w + i = p)) := by
  have h2 := hp.1
  rcases sq_one hp (Nat.mod_lt _ (by omega)) h4 with h | h
  · exact .inl ⟨h, sq_one hp hw h⟩
  · exact .inr ⟨h, sq_eq hp hw hi (by rw [h, hii])⟩

theorem mod_cancel {p a b c : Nat} (h : (a + c) % p = (b + c) % p) : a % p = b % p := by
  rcases Nat.le_total a b with hle | hle
  · refine mods_of_dvd hle ?_
    have := dvd_of_mods h
    rwa [Nat.add_sub_add_right] at this
  · refine (mods_of_dvd hle ?_).symm
    have := dvd_of_mods h.symm
    rwa [Nat.add_sub_add_right] at this

theorem neg_mul {p u : Nat} (hu : u ≤ p) (h0 : 0 < p) : u * (p - 1) % p = (p - u) % p := by
  refine mod_cancel (c := u) ?_
  rw [Nat.sub_add_cancel hu, Nat.mod_self]
  rw [show u * (p - 1) + u = u * (p - 1 + 1) by rw [Nat.mul_add, Nat.mul_one], Nat.sub_add_cancel h0, Nat.mul_mod_left]

theorem neg_swap {p u i : Nat} (hu : u ≤ p) (hi : i ≤ p) : u * (p - i) % p = (p - u) * i % p := by
  refine mod_cancel (c := u * i) ?_
  rw [← Nat.mul_add, ← Nat.add_mul, Nat.sub_add_cancel hu, Nat.sub_add_cancel hi, Nat.mul_mod_left, Nat.mul_mod_right]

theorem mul_cancel_aux {p u a b : Nat} (hp : Prm p) (hu : ¬ p ∣ u) (ha : a < p) (hle : b ≤ a) (h : u * a % p = u * b % p) : a = b := by
  have hd := dvd_of_mods h.symm
  rw [← Nat.mul_sub] at hd
  rcases hp.dvd_mul hd with h | h
  · exact absurd h hu
  · have := Nat.eq_zero_of_dvd_of_lt h (by omega)
    omega

theorem mul_cancel {p u a b : Nat} (hp : Prm p) (hu : ¬ p ∣ u) (ha : a < p) (hb : b < p) (h : u * a % p = u * b % p) : a = b := by
  rcases Nat.le_total b a with hle | hle
  · exact mul_cancel_aux hp hu ha hle h
  · exact (mul_cancel_aux hp hu hb hle h.symm).symm

theorem mod_pow_mod (a b n : Nat) : (a % n) ^ b % n = a ^ b % n := (Nat.pow_mod a b n).symm

end Go.Eng

/- The field as numbers: Euler, Legendre, the root of a ratio. -/
namespace Go.Proofs.Ytcgolglcjfknpaa
open Go Go.Eng
set_option maxRecDepth 100000

theorem ndvd {v : Nat} (hv : v < p25519) (h0 : v ≠ 0) : ¬ p25519 ∣ v := fun h => h0 (Nat.eq_zero_of_dvd_of_lt h hv)
theorem p_ph : p25519 = 2 * ph + 1 := by decide
theorem pw_ph {v : Nat} (hv : ¬ p25519 ∣ v) : pw v ph = 1 ∨ pw v ph = p25519 - 1 := by
  rw [pw_eq]; exact euler prm_p p_ph hv
theorem pw0 {e : Nat} (h : e ≠ 0) : pw 0 e = 0 := by rw [pw_eq, Nat.zero_pow (by omega)]; rfl
theorem leg_zero : legI 0 = 0 := by
  rw [legI_def]; unfold legR; rw [pw0 (by decide), decide_eq_true rfl, cond_true]
theorem leg_one {v : Nat} (h : pw v ph = 1) : legI v = 1 := by
  rw [legI_def]; unfold legR; rw [h, decide_eq_false (by decide), decide_eq_true rfl, cond_true, cond_false]
theorem leg_neg {v : Nat} (h : pw v ph = p25519 - 1) : legI v = -1 := by
  rw [legI_def]; unfold legR; rw [h, decide_eq_false (by decide), decide_eq_false (by decide), cond_false, cond_false]
theorem pw_mulN (a b e : Nat) : pw (mulN a b) e = mulN (pw a e) (pw b e) := by
  simp only [pw_eq, mulN_def, mod_pow_mod, Nat.mod_mul_mod, Nat.mul_mod_mod, Nat.mul_pow]
theorem leg_cases {v : Nat} (hv : v < p25519) : (v = 0 ∧ legI v = 0) ∨ (pw v ph = 1 ∧ legI v = 1) ∨ (pw v ph = p25519 - 1 ∧ legI v = -1) := by
  by_cases h : v = 0
  · exact .inl ⟨h, by rw [h]; exact leg_zero⟩
  · rcases pw_ph (ndvd hv h) with h | h
    · exact .inr (.inl ⟨h, leg_one h⟩)
    · exact .inr (.inr ⟨h, leg_neg h⟩)
theorem mulN_zero (a : Nat) : mulN a 0 = 0 := by rw [mulN_def, Nat.mul_zero]; rfl
theorem zero_mulN (a : Nat) : mulN 0 a = 0 := by rw [mulN_def, Nat.zero_mul]; rfl
theorem leg_mul {a b : Nat} (ha : a < p25519) (hb : b < p25519) : legI (mulN a b) = legI a * legI b := by
  rcases leg_cases ha with ⟨rfl, h1⟩ | ⟨g1, h1⟩ | ⟨g1, h1⟩
  · rw [zero_mulN, h1, Int.zero_mul]
  · rcases leg_cases hb with ⟨rfl, h2⟩ | ⟨g2, h2⟩ | ⟨g2, h2⟩
    · rw [mulN_zero, h2, Int.mul_zero]
    · rw [h1, h2, leg_one (by rw [pw_mulN, g1, g2, mulN_def]; decide)]; rfl
    · rw [h1, h2, leg_neg (by rw [pw_mulN, g1, g2, mulN_def]; decide)]; rfl
  · rcases leg_cases hb with ⟨rfl, h2⟩ | ⟨g2, h2⟩ | ⟨g2, h2⟩
    · rw [mulN_zero, h2, Int.mul_zero]
    · rw [h1, h2, leg_neg (by rw [pw_mulN, g1, g2, mulN_def]; decide)]; rfl
    · rw [h1, h2, leg_one (by rw [pw_mulN, g1, g2, mulN_def]; decide)]; rfl
/-- to the power p -/
theorem pw_p {v : Nat} (hv : v < p25519) : pw v p25519 = v := by
  by_cases h : v = 0
  · subst h; exact pw0 (by decide)
  · have := fermat prm_p (ndvd hv h)
    rw [pw_eq]
    obtain ⟨q, hq⟩ : ∃ q, p25519 - 1 = q := ⟨_, rfl⟩
    rw [hq] at this
    have e : p25519 = q + 1 := by rw [← hq]; decide
    rw [show v ^ p25519 % p25519 = v ^ (q + 1) % p25519 by rw [← e], Nat.pow_succ, ← Nat.mod_mul_mod, this, Nat.one_mul, Nat.mod_eq_of_lt hv]

/-- the fourth root of one -/
noncomputable def rootW (u v : Nat) : Nat := pw (u * (v * v * v) * (v * v * v) * v) 14474011154664524427946373126085988481658748083205070504932198000989141204987
theorem chN_eq (u v : Nat) : chN u v = mulN u (rootW u v) := by
  obtain ⟨e, he⟩ : ∃ e, e = 7237005577332262213973186563042994240829374041602535252466099000494570602493 := ⟨_, rfl⟩
  have h2 : 14474011154664524427946373126085988481658748083205070504932198000989141204987 = 2 * e + 1 := by rw [he]
  unfold chN rtN rootW
  rw [← he, h2]
  simp only [pw_eq, mulN_def, mod_pow_mod, Nat.mod_mul_mod, Nat.mul_mod_mod]
  rw [root_sq]
theorem rootW_lt (u v : Nat) : rootW u v < p25519 := pw_lt _ _
theorem rootW_sq {u v : Nat} (hv : ¬ p25519 ∣ v) : rootW u v * rootW u v % p25519 = pw (mulN u v) ph := by
  unfold rootW
  obtain ⟨q, hq⟩ : ∃ q, q = 14474011154664524427946373126085988481658748083205070504932198000989141204987 := ⟨_, rfl⟩
  have h2 : q + q = ph := by rw [hq]; decide
  have h3 : ph + ph = p25519 - 1 := by decide
  rw [← hq, pw_eq, ← Nat.mul_mod, ← Nat.pow_add, h2, pw_eq, mulN_def, mod_pow_mod]
  rw [show u * (v * v * v) * (v * v * v) * v = (u * v) * ((v * v * v) * (v * v * v)) by ac_rfl, Nat.mul_pow, Nat.mul_pow (v * v * v), ← Nat.pow_add, h3, ← Nat.mul_mod_mod]
  have hv3 : ¬ p25519 ∣ v * v * v := by
    intro h
    rcases prm_p.dvd_mul h with h | h
    · rcases prm_p.dvd_mul h with h | h <;> exact hv h
    · exact hv h
  rw [fermat prm_p hv3, Nat.mul_one]
theorem mulN_lt' (a b : Nat) : mulN a b < p25519 := mulN_lt a b
theorem i_sq : iN * iN % p25519 = p25519 - 1 := by decide
theorem i_lt : iN < p25519 := by decide
theorem absN_sq {a : Nat} (ha : a < p25519) : mulN (absN a) (absN a) = mulN a a := by
  rw [absN_def]
  cases hc : (a % 2 == 1)
  · rfl
  · rw [cond_true]
    have h0 : a ≠ 0 := fun h => by rw [h] at hc; exact absurd hc (by decide)
    have e : subN 0 a = p25519 - a := by rw [subN_def, Nat.zero_add, Nat.mod_eq_of_lt (by omega)]
    rw [e, mulN_def, mulN_def, neg_sq (by omega)]
theorem absN_even {a : Nat} (ha : a < p25519) : absN a % 2 = 0 := by
  rw [absN_def]
  cases hc : (a % 2 == 1)
  · rw [cond_false]
    have : ¬ a % 2 = 1 := fun h => by rw [h] at hc; exact absurd hc (by decide)
    omega
  · rw [beq_iff_eq] at hc
    have e : subN 0 a = p25519 - a := by rw [subN_def, Nat.zero_add, Nat.mod_eq_of_lt (by omega)]
    rw [cond_true, e]
    have h1 : p25519 % 2 = 1 := by decide
    omega
theorem ratN_even {u : Nat} (v : Nat) : ratN u v % 2 = 0 := by
  rw [ratN_def]; unfold ratR
  have h1 := absN_even (a := rtN u v) (mulN_lt _ _)
  have h2 := absN_even (a := mulN (rtN u v) iN) (mulN_lt _ _)
  cases decide (chN u v = u)
  · cases decide (chN u v = subN 0 u)
    · cases decide (chN u v = mulN (subN 0 u) iN)
      · exact h1
      · exact h2
    · exact h2
  · exact h1
theorem neg_eq {u : Nat} (hu : u < p25519) : subN 0 u = mulN u (p25519 - 1) := by
  rw [subN_def, mulN_def, neg_mul (by omega) (by decide), Nat.zero_add]
theorem negi_eq {u : Nat} (hu : u < p25519) : mulN (subN 0 u) iN = mulN u (p25519 - iN) := by
  rw [mulN_def, mulN_def, neg_swap (by omega) (by decide), subN_def, Nat.zero_add, Nat.mod_mul_mod]
theorem mulN_inj {u a b : Nat} (hu : u < p25519) (h0 : u ≠ 0) (ha : a < p25519) (hb : b < p25519) : (mulN u a = mulN u b) = (a = b) := by
  refine propext ⟨fun h => mul_cancel prm_p (ndvd hu h0) ha hb (by rwa [mulN_def, mulN_def] at h), fun h => by rw [h]⟩
/-- the root's square times v, and the root by i -/
theorem rt_i (u v : Nat) : mulN (mulN (mulN (rtN u v) iN) (mulN (rtN u v) iN)) v = mulN (chN u v) (p25519 - 1) := by
  have : mulN (mulN (mulN (rtN u v) iN) (mulN (rtN u v) iN)) v = mulN (chN u v) (iN * iN % p25519) := by
    unfold chN
    simp only [mulN_def, Nat.mod_mul_mod, Nat.mul_mod_mod]
    refine congrArg (· % p25519) ?_
    ac_rfl
  rw [this, i_sq]
theorem ratio {u v : Nat} (hu : u < p25519) (hv : v < p25519) (hv0 : v ≠ 0) :
    (ratB u v = true ∧ mulN (mulN (ratN u v) (ratN u v)) v = u ∧ 0 ≤ legI (mulN u v)) ∨ (ratB u v = false ∧ mulN (mulN (ratN u v) (ratN u v)) v = mulN iN u ∧ legI (mulN u v) = -1) := by
  have rl : rtN u v < p25519 := mulN_lt _ _
  have ril : mulN (rtN u v) iN < p25519 := mulN_lt _ _
  have hch := chN_eq u v
  by_cases h0 : u = 0
  · subst h0
    rw [zero_mulN] at hch
    left
    refine ⟨by rw [ratB_def, hch, decide_eq_true rfl, Bool.true_or], ?_, by rw [zero_mulN, leg_zero]; decide⟩
    rw [ratN_def]; unfold ratR
    rw [decide_eq_true hch, cond_true, absN_sq rl]
    exact hch
  · have hW := rootW_lt u v
    have hsq := rootW_sq (u := u) (ndvd hv hv0)
    have hm0 : mulN u v ≠ 0 := by
      rw [mulN_def]
      exact mod_pos fun h => (prm_p.dvd_mul h).elim (ndvd hu h0) (ndvd hv hv0)
    have hph := pw_ph (ndvd (mulN_lt u v) hm0)
    have h4 : rootW u v * rootW u v % p25519 * (rootW u v * rootW u v % p25519) % p25519 = 1 := by
      rw [hsq]
      rcases hph with h | h <;> rw [h] <;> decide
    have t1 : (chN u v = u) = (rootW u v = 1) := by
      rw [hch]; conv => lhs; rhs; rw [← mulN_one hu]
      exact mulN_inj hu h0 hW (by decide)
    have t2 : (chN u v = subN 0 u) = (rootW u v = p25519 - 1) := by
      rw [hch, neg_eq hu]; exact mulN_inj hu h0 hW (by decide)
    have t3 : (chN u v = mulN (subN 0 u) iN) = (rootW u v = p25519 - iN) := by
      rw [hch, negi_eq hu]; exact mulN_inj hu h0 hW (by decide)
    rw [ratB_def, ratN_def]; unfold ratR
    simp only [t1, t2, t3]
    rcases fourth prm_p hW i_lt i_sq h4 with ⟨hs, hw | hw⟩ | ⟨hs, hw | hw⟩
    · left
      rw [hsq] at hs
      rw [hw, decide_eq_true rfl, cond_true, absN_sq rl, leg_one hs]
      refine ⟨rfl, ?_, by decide⟩
      show chN u v = u
      rw [hch, hw, mulN_one hu]
    · left
      rw [hsq] at hs
      rw [hw, decide_eq_false (show ¬ p25519 - 1 = 1 by decide), decide_eq_true rfl, cond_true, cond_false, absN_sq ril, leg_one hs, rt_i, hch, hw]
      refine ⟨rfl, ?_, by decide⟩
      rw [mulN_assoc, show mulN (p25519 - 1) (p25519 - 1) = 1 by rw [mulN_def]; decide, mulN_one hu]
    · right
      rw [hsq] at hs
      rw [hw, decide_eq_false (show ¬ iN = 1 by decide), decide_eq_false (show ¬ iN = p25519 - 1 by decide), decide_eq_false (show ¬ iN = p25519 - iN by decide), cond_false, cond_false, cond_false, absN_sq rl, leg_neg hs]
      refine ⟨rfl, ?_, rfl⟩
      show chN u v = _
      rw [hch, hw, mulN_comm]
    · right
      have hw : rootW u v = p25519 - iN := by omega
      rw [hsq] at hs
      rw [hw, decide_eq_false (show ¬ p25519 - iN = 1 by decide), decide_eq_false (show ¬ p25519 - iN = p25519 - 1 by decide), decide_eq_true rfl, cond_false, cond_false, cond_true, absN_sq ril, leg_neg hs, rt_i, hch, hw]
      refine ⟨rfl, ?_, rfl⟩
      rw [mulN_assoc, show mulN (p25519 - iN) (p25519 - 1) = iN by rw [mulN_def]; decide, mulN_comm]
theorem ratN_v0 (u : Nat) : ratN u 0 = 0 := by
  have h : rtN u 0 = 0 := by unfold rtN; rw [mulN_zero (mulN 0 0), mulN_zero u, zero_mulN]
  rw [ratN_def]; unfold ratR
  rw [h, zero_mulN, show absN 0 = 0 by rw [absN_def]; decide]
  cases decide (chN u 0 = u) <;> cases decide (chN u 0 = subN 0 u) <;> cases decide (chN u 0 = mulN (subN 0 u) iN) <;> rfl
theorem ratB_v0 {u : Nat} (hu : u < p25519) : ratB u 0 = decide (u = 0) := by
  have hc : chN u 0 = 0 := by unfold chN; exact mulN_zero _
  rw [ratB_def, hc]
  by_cases h : u = 0
  · subst h; simp
  · have e : subN 0 u = p25519 - u := by rw [subN_def, Nat.zero_add, Nat.mod_eq_of_lt (by omega)]
    rw [e, decide_eq_false (show ¬ 0 = u by omega), decide_eq_false (show ¬ 0 = p25519 - u by omega), decide_eq_false h]; rfl
end Go.Proofs.Ytcgolglcjfknpaa

/- the document's functions, as numbers. -/
namespace Go.Proofs.Ytcgolglcjfknpaa
open Go Go.Eng
set_option maxRecDepth 100000
set_option linter.unusedSimpArgs false
theorem addN_sub {a b : Nat} : addN a (subN 0 b) = subN a b := by rw [addN_def, subN_def, subN_def, Nat.zero_add, Nat.add_mod_mod]
theorem ref_zero : List.replicate 16 (0 : Int) = refN 0 := by rw [refN_def]; decide
theorem ref_one : (List.replicate 16 (0 : Int)).set (mulE (Int.toNat 0) 1) 1 = refN 1 := by rw [refN_def]; decide
theorem ref_dec {a b : Nat} (ha : a < p25519) (hb : b < p25519) : decide (refN a = refN b) = decide (a = b) := by
  simp only [refN_inj (Nat.lt_trans ha two255) (Nat.lt_trans hb two255)]
theorem ref_odd {v : Nat} : (((refN v).getD (Int.toNat 0) 0).tmod 2 == 1) = (v % 2 == 1) := by
  rw [refN_def, show Int.toNat 0 = 0 from rfl, nats_getD, digs_getD _ _ _ _ (by decide), Nat.pow_zero, Nat.div_one]
  show ((((v % 65536 % 2 : Nat) : Int)) == 1) = _
  rw [show v % 65536 % 2 = v % 2 by omega]
  rcases Nat.mod_two_eq_zero_or_one v with h | h <;> rw [h] <;> rfl
def intL (x : Int) : List Int := [IntKind.u8.wrap (shrI .u64 x 0), IntKind.u8.wrap (shrI .u64 x 8), IntKind.u8.wrap (shrI .u64 x 16), IntKind.u8.wrap (shrI .u64 x 24), IntKind.u8.wrap (shrI .u64 x 32), IntKind.u8.wrap (shrI .u64 x 40), IntKind.u8.wrap (shrI .u64 x 48), IntKind.u8.wrap (shrI .u64 x 56)] ++ List.replicate 24 0
theorem int_eq {R : Type} (x : Int) (k : List DV → Option R) : f96_raw 0 x k = bif okB (intL x) then bif okD (refN (vB (intL x))) then k [.v (.one (.ints .u8 32 (feN (numD (refN (vB (intL x)))))))] else none else none := by kernel_rfl
theorem intL_nats (n : Nat) : intL (n : Int) = nats (digs 256 8 n ++ List.replicate 24 0) := by
  unfold intL
  rw [show shrI .u64 (n : Int) 0 = ((n / 2 ^ 0 : Nat) : Int) from shrN (k := .u64) (m := 0) (by decide) n, show shrI .u64 (n : Int) 8 = ((n / 2 ^ 8 : Nat) : Int) from shrN (k := .u64) (m := 8) (by decide) n, show shrI .u64 (n : Int) 16 = ((n / 2 ^ 16 : Nat) : Int) from shrN (k := .u64) (m := 16) (by decide) n, show shrI .u64 (n : Int) 24 = ((n / 2 ^ 24 : Nat) : Int) from shrN (k := .u64) (m := 24) (by decide) n, show shrI .u64 (n : Int) 32 = ((n / 2 ^ 32 : Nat) : Int) from shrN (k := .u64) (m := 32) (by decide) n, show shrI .u64 (n : Int) 40 = ((n / 2 ^ 40 : Nat) : Int) from shrN (k := .u64) (m := 40) (by decide) n, show shrI .u64 (n : Int) 48 = ((n / 2 ^ 48 : Nat) : Int) from shrN (k := .u64) (m := 48) (by decide) n, show shrI .u64 (n : Int) 56 = ((n / 2 ^ 56 : Nat) : Int) from shrN (k := .u64) (m := 56) (by decide) n]
  simp only [wm8, digs, Nat.div_div_eq_div_mul, Nat.pow_zero, Nat.div_one]
  rfl
theorem int_num {n : Nat} (h : n < 18446744073709551616) : okB (intL (n : Int)) = true ∧ vB (intL (n : Int)) = n := by
  rw [intL_nats]
  have hb : ∀ b ∈ digs 256 8 n ++ List.replicate 24 0, b < 256 := by
    intro b hb
    rcases List.mem_append.1 hb with hb | hb
    · exact digs_lt (by decide) b hb
    · rw [List.eq_of_mem_replicate hb]; decide
  refine ⟨okB_nats (by rw [List.length_append, digs_length, List.length_replicate]) hb, ?_⟩
  rw [vB_def, numB_nats, valB_append, digs_val, show valB 256 (List.replicate 24 0) = 0 by decide, Nat.mul_zero, Nat.add_zero]
  rw [Nat.mod_eq_of_lt (show n < 256 ^ 8 by exact h), Nat.mod_eq_of_lt (Nat.lt_trans h (by decide))]

theorem f44_num {R : Type} (x : List Int) (y : List Int) (hx : (okB x) = true) (hy : (okB y) = true) (k : List DV → Option R) : f44_raw 0 x y k = k [.v (.one (.ints .u8 32 (feN (addN (vB x) (vB y)))))] := by
  unfold f44_raw
  try dsimp only
  simp only [hx, hy, okD_refN, numD_ref (vB_lt _), numD_ref (addN_lt _ _), numD_ref (subN_lt _ _), numD_ref (mulN_lt _ _), numD_ref (pw_lt _ _), decide_eq_true (vB_lt _), Bool.and_self, cond_true]
noncomputable def I44 : (R : Type) → List DV → (List DV → Option R) → Option R := fun _ ds k => match ds with
  | [.v (.one (.ints .u8 32 x)), .v (.one (.ints .u8 32 y))] => bif okB x && okB y then k [.v (.one (.ints .u8 32 (feN (addN (vB x) (vB y)))))] else none
  | _ => none
theorem c44 : Contract Try.prog 44 { sig := S44, impl := I44 } := by
  refine Contract.refine fun R ds k r h => ⟨_, f44_contract 0 HE_ok, ?_⟩
  unfold I44 at h
  split at h
  · rename_i x y
    rcases hc : okB x && okB y with _ | _
    · rw [hc] at h; cases h
    · rw [hc, cond_true] at h
      simp only [Bool.and_eq_true] at hc
      rw [f44_raw_eq, f44_num x y hc.1 hc.2]; exact h
  · cases h

theorem f46_num {R : Type} (x : List Int) (y : List Int) (hx : (okB x) = true) (hy : (okB y) = true) (k : List DV → Option R) : f46_raw 0 x y k = k [.v (.one (.ints .u8 32 (feN (subN (vB x) (vB y)))))] := by
  unfold f46_raw
  try dsimp only
  simp only [hx, hy, okD_refN, numD_ref (vB_lt _), numD_ref (addN_lt _ _), numD_ref (subN_lt _ _), numD_ref (mulN_lt _ _), numD_ref (pw_lt _ _), decide_eq_true (vB_lt _), Bool.and_self, cond_true, addN_sub]
noncomputable def I46 : (R : Type) → List DV → (List DV → Option R) → Option R := fun _ ds k => match ds with
  | [.v (.one (.ints .u8 32 x)), .v (.one (.ints .u8 32 y))] => bif okB x && okB y then k [.v (.one (.ints .u8 32 (feN (subN (vB x) (vB y)))))] else none
  | _ => none
theorem c46 : Contract Try.prog 46 { sig := S46, impl := I46 } := by
  refine Contract.refine fun R ds k r h => ⟨_, f46_contract 0 HE_ok, ?_⟩
  unfold I46 at h
  split at h
  · rename_i x y
    rcases hc : okB x && okB y with _ | _
    · rw [hc] at h; cases h
    · rw [hc, cond_true] at h
      simp only [Bool.and_eq_true] at hc
      rw [f46_raw_eq, f46_num x y hc.1 hc.2]; exact h
  · cases h

theorem f47_num {R : Type} (x : List Int) (hx : (okB x) = true) (k : List DV → Option R) : f47_raw 0 x k = k [.v (.one (.ints .u8 32 (feN (subN 0 (vB x)))))] := by
  unfold f47_raw
  try dsimp only
  simp only [hx, okD_refN, numD_ref (vB_lt _), numD_ref (addN_lt _ _), numD_ref (subN_lt _ _), numD_ref (mulN_lt _ _), numD_ref (pw_lt _ _), decide_eq_true (vB_lt _), Bool.and_self, cond_true]
noncomputable def I47 : (R : Type) → List DV → (List DV → Option R) → Option R := fun _ ds k => match ds with
  | [.v (.one (.ints .u8 32 x))] => bif okB x then k [.v (.one (.ints .u8 32 (feN (subN 0 (vB x)))))] else none
  | _ => none
theorem c47 : Contract Try.prog 47 { sig := S47, impl := I47 } := by
  refine Contract.refine fun R ds k r h => ⟨_, f47_contract 0 HE_ok, ?_⟩
  unfold I47 at h
  split at h
  · rename_i x
    rcases hc : okB x with _ | _
    · rw [hc] at h; cases h
    · rw [hc, cond_true] at h
      rw [f47_raw_eq, f47_num x hc]; exact h
  · cases h

theorem f50_num {R : Type} (x : List Int) (y : List Int) (hx : (okB x) = true) (hy : (okB y) = true) (k : List DV → Option R) : f50_raw 0 x y k = k [.v (.one (.ints .u8 32 (feN (mulN (vB x) (vB y)))))] := by
  unfold f50_raw
  try dsimp only
  simp only [hx, hy, okD_refN, numD_ref (vB_lt _), numD_ref (addN_lt _ _), numD_ref (subN_lt _ _), numD_ref (mulN_lt _ _), numD_ref (pw_lt _ _), decide_eq_true (vB_lt _), Bool.and_self, cond_true]
noncomputable def I50 : (R : Type) → List DV → (List DV → Option R) → Option R := fun _ ds k => match ds with
  | [.v (.one (.ints .u8 32 x)), .v (.one (.ints .u8 32 y))] => bif okB x && okB y then k [.v (.one (.ints .u8 32 (feN (mulN (vB x) (vB y)))))] else none
  | _ => none
theorem c50 : Contract Try.prog 50 { sig := S50, impl := I50 } := by
  refine Contract.refine fun R ds k r h => ⟨_, f50_contract 0 HE_ok, ?_⟩
  unfold I50 at h
  split at h
  · rename_i x y
    rcases hc : okB x && okB y with _ | _
    · rw [hc] at h; cases h
    · rw [hc, cond_true] at h
      simp only [Bool.and_eq_true] at hc
      rw [f50_raw_eq, f50_num x y hc.1 hc.2]; exact h
  · cases h

theorem f26_num {R : Type} (x : List Int) (hx : (okB x) = true) (k : List DV → Option R) : f26_raw 0 x k = k [.v (.one (.ints .u8 32 (feN (pw (vB x) pm2))))] := by
  unfold f26_raw
  try dsimp only
  simp only [hx, okD_refN, numD_ref (vB_lt _), numD_ref (addN_lt _ _), numD_ref (subN_lt _ _), numD_ref (mulN_lt _ _), numD_ref (pw_lt _ _), decide_eq_true (vB_lt _), Bool.and_self, cond_true, okE_exInv, num_exInv]
  rfl
noncomputable def I26 : (R : Type) → List DV → (List DV → Option R) → Option R := fun _ ds k => match ds with
  | [.v (.one (.ints .u8 32 x))] => bif okB x then k [.v (.one (.ints .u8 32 (feN (pw (vB x) pm2))))] else none
  | _ => none
theorem c26 : Contract Try.prog 26 { sig := S26, impl := I26 } := by
  refine Contract.refine fun R ds k r h => ⟨_, f26_contract 0 HE_ok, ?_⟩
  unfold I26 at h
  split at h
  · rename_i x
    rcases hc : okB x with _ | _
    · rw [hc] at h; cases h
    · rw [hc, cond_true] at h
      rw [f26_raw_eq, f26_num x hc]; exact h
  · cases h

theorem f28_num {R : Type} (x : List Int) (e : List Int) (hx : (okB x) = true) (he : (okE e) = true) (k : List DV → Option R) : f28_raw 0 x e k = k [.v (.one (.ints .u8 32 (feN (pw (vB x) (numB e)))))] := by
  unfold f28_raw
  try dsimp only
  simp only [hx, he, okD_refN, numD_ref (vB_lt _), numD_ref (addN_lt _ _), numD_ref (subN_lt _ _), numD_ref (mulN_lt _ _), numD_ref (pw_lt _ _), decide_eq_true (vB_lt _), Bool.and_self, cond_true]
noncomputable def I28 : (R : Type) → List DV → (List DV → Option R) → Option R := fun _ ds k => match ds with
  | [.v (.one (.ints .u8 32 x)), .lst .u8 1 e] => bif okB x && okE e then k [.v (.one (.ints .u8 32 (feN (pw (vB x) (numB e)))))] else none
  | _ => none
theorem c28 : Contract Try.prog 28 { sig := S28, impl := I28 } := by
  refine Contract.refine fun R ds k r h => ⟨_, f28_contract 0 HE_ok, ?_⟩
  unfold I28 at h
  split at h
  · rename_i x e
    rcases hc : okB x && okE e with _ | _
    · rw [hc] at h; cases h
    · rw [hc, cond_true] at h
      simp only [Bool.and_eq_true] at hc
      rw [f28_raw_eq, f28_num x e hc.1 hc.2]; exact h
  · cases h

theorem f29_num {R : Type} (x : List Int) (hx : (okB x) = true) (k : List DV → Option R) : f29_raw 0 x k = k [.v (.one (.int .i64 (legI (vB x))))] := by
  unfold f29_raw
  try dsimp only
  simp only [hx, okD_refN, numD_ref (vB_lt _), numD_ref (addN_lt _ _), numD_ref (subN_lt _ _), numD_ref (mulN_lt _ _), numD_ref (pw_lt _ _), decide_eq_true (vB_lt _), Bool.and_self, cond_true, okE_exHalf, num_exHalf]
  rw [ref_zero, show (refN 0).set (mulE (Int.toNat 0) 1) 1 = refN 1 from ref_zero ▸ ref_one, ref_dec (pw_lt _ _) (by decide), ref_dec (pw_lt _ _) (by decide), legI_def]
  exact sel3 _ _ k
noncomputable def I29 : (R : Type) → List DV → (List DV → Option R) → Option R := fun _ ds k => match ds with
  | [.v (.one (.ints .u8 32 x))] => bif okB x then k [.v (.one (.int .i64 (legI (vB x))))] else none
  | _ => none
theorem c29 : Contract Try.prog 29 { sig := S29, impl := I29 } := by
  refine Contract.refine fun R ds k r h => ⟨_, f29_contract 0 HE_ok, ?_⟩
  unfold I29 at h
  split at h
  · rename_i x
    rcases hc : okB x with _ | _
    · rw [hc] at h; cases h
    · rw [hc, cond_true] at h
      rw [f29_raw_eq, f29_num x hc]; exact h
  · cases h

theorem f31_num {R : Type} (x : List Int) (hx : (okB x) = true) (k : List DV → Option R) : f31_raw 0 x k = k [.v (.one (.bool (vB x % 2 == 1)))] := by
  unfold f31_raw
  try dsimp only
  rw [hx, cond_true, ref_odd]
noncomputable def I31 : (R : Type) → List DV → (List DV → Option R) → Option R := fun _ ds k => match ds with
  | [.v (.one (.ints .u8 32 x))] => bif okB x then k [.v (.one (.bool (vB x % 2 == 1)))] else none
  | _ => none
theorem c31 : Contract Try.prog 31 { sig := S31, impl := I31 } := by
  refine Contract.refine fun R ds k r h => ⟨_, f31_contract 0 HE_ok, ?_⟩
  unfold I31 at h
  split at h
  · rename_i x
    rcases hc : okB x with _ | _
    · rw [hc] at h; cases h
    · rw [hc, cond_true] at h
      rw [f31_raw_eq, f31_num x hc]; exact h
  · cases h

theorem f71_num {R : Type} (e : List Int) (he : (okE e) = true) (hh : decide (e.length ≤ 63) = true) (k : List DV → Option R) : f71_raw 0 e k = k [.v (.one (.ints .u8 32 (feN (numB e % p25519))))] := by
  unfold f71_raw
  try dsimp only
  rw [he, okL_digL (of_decide_eq_true hh), numD_digL he, decide_eq_true (show e.length ≤ 1000000 by have := of_decide_eq_true hh; omega), okD_refN, numD_refm]
  rfl
noncomputable def I71 : (R : Type) → List DV → (List DV → Option R) → Option R := fun _ ds k => match ds with
  | [.lst .u8 1 e] => bif okE e && decide (e.length ≤ 63) then k [.v (.one (.ints .u8 32 (feN (numB e % p25519))))] else none
  | _ => none
theorem c71 : Contract Try.prog 71 { sig := S71, impl := I71 } := by
  refine Contract.refine fun R ds k r h => ⟨_, f71_contract 0 HE_ok, ?_⟩
  unfold I71 at h
  split at h
  · rename_i e
    rcases hc : okE e && decide (e.length ≤ 63) with _ | _
    · rw [hc] at h; cases h
    · rw [hc, cond_true] at h
      rw [Bool.and_eq_true] at hc; rw [f71_raw_eq, f71_num e hc.1 hc.2]; exact h
  · cases h

theorem f96_num {R : Type} (x : Int) (hx : (okU x) = true) (k : List DV → Option R) : f96_raw 0 x k = k [.v (.one (.ints .u8 32 (feN (x.toNat))))] := by
  obtain ⟨n, rfl, hn⟩ := okU_of hx
  obtain ⟨h1, h2⟩ := int_num hn
  rw [int_eq, h1, h2, okD_refN, numD_ref (Nat.lt_trans hn (by decide))]
  rfl
noncomputable def I96 : (R : Type) → List DV → (List DV → Option R) → Option R := fun _ ds k => match ds with
  | [.v (.one (.int .u64 x))] => bif okU x then k [.v (.one (.ints .u8 32 (feN (x.toNat))))] else none
  | _ => none
theorem c96 : Contract Try.prog 96 { sig := S96, impl := I96 } := by
  refine Contract.refine fun R ds k r h => ⟨_, f96_contract 0 HE_ok, ?_⟩
  unfold I96 at h
  split at h
  · rename_i x
    rcases hc : okU x with _ | _
    · rw [hc] at h; cases h
    · rw [hc, cond_true] at h
      rw [f96_raw_eq, f96_num x hc]; exact h
  · cases h

theorem f52_num {R : Type} (x : List Int) (y : List Int) (hx : (okB x) = true) (hy : (okB y) = true) (k : List DV → Option R) : f52_raw 0 x y k = k [.v (.one (.bool (decide (vB x = vB y))))] := by
  unfold f52_raw
  try dsimp only
  rw [hx, hy, cond_true, cond_true, ref_dec (vB_lt _) (vB_lt _)]
noncomputable def I52 : (R : Type) → List DV → (List DV → Option R) → Option R := fun _ ds k => match ds with
  | [.v (.one (.ints .u8 32 x)), .v (.one (.ints .u8 32 y))] => bif okB x && okB y then k [.v (.one (.bool (decide (vB x = vB y))))] else none
  | _ => none
theorem c52 : Contract Try.prog 52 { sig := S52, impl := I52 } := by
  refine Contract.refine fun R ds k r h => ⟨_, f52_contract 0 HE_ok, ?_⟩
  unfold I52 at h
  split at h
  · rename_i x y
    rcases hc : okB x && okB y with _ | _
    · rw [hc] at h; cases h
    · rw [hc, cond_true] at h
      simp only [Bool.and_eq_true] at hc
      rw [f52_raw_eq, f52_num x y hc.1 hc.2]; exact h
  · cases h

theorem f54_num {R : Type} (x : List Int) (y : List Int) (c : Bool) (hx : (okB x) = true) (hy : (okB y) = true) (k : List DV → Option R) : f54_raw 0 x y c k = k [.v (.one (.ints .u8 32 (feN (bif c then vB y else vB x))))] := by
  unfold f54_raw
  cases c
  · simp only [hx, okD_refN, numD_ref (vB_lt _), numD_ref (addN_lt _ _), numD_ref (subN_lt _ _), numD_ref (mulN_lt _ _), numD_ref (pw_lt _ _), decide_eq_true (vB_lt _), Bool.and_self, cond_true, cond_false]
  · simp only [hy, okD_refN, numD_ref (vB_lt _), numD_ref (addN_lt _ _), numD_ref (subN_lt _ _), numD_ref (mulN_lt _ _), numD_ref (pw_lt _ _), decide_eq_true (vB_lt _), Bool.and_self, cond_true]
noncomputable def I54 : (R : Type) → List DV → (List DV → Option R) → Option R := fun _ ds k => match ds with
  | [.v (.one (.ints .u8 32 x)), .v (.one (.ints .u8 32 y)), .v (.one (.bool c))] => bif okB x && okB y then k [.v (.one (.ints .u8 32 (feN (bif c then vB y else vB x))))] else none
  | _ => none
theorem c54 : Contract Try.prog 54 { sig := S54, impl := I54 } := by
  refine Contract.refine fun R ds k r h => ⟨_, f54_contract 0 HE_ok, ?_⟩
  unfold I54 at h
  split at h
  · rename_i x y c
    rcases hc : okB x && okB y with _ | _
    · rw [hc] at h; cases h
    · rw [hc, cond_true] at h
      simp only [Bool.and_eq_true] at hc
      rw [f54_raw_eq, f54_num x y c hc.1 hc.2]; exact h
  · cases h

noncomputable def HF : Ctx := (44, { sig := S44, impl := I44 }) :: (46, { sig := S46, impl := I46 }) :: (47, { sig := S47, impl := I47 }) :: (50, { sig := S50, impl := I50 }) :: (26, { sig := S26, impl := I26 }) :: (28, { sig := S28, impl := I28 }) :: (29, { sig := S29, impl := I29 }) :: (31, { sig := S31, impl := I31 }) :: (71, { sig := S71, impl := I71 }) :: (96, { sig := S96, impl := I96 }) :: (52, { sig := S52, impl := I52 }) :: (54, { sig := S54, impl := I54 }) :: HE
theorem HF_ok : CtxOk Try.prog HF := ctxOk_cons ok44 rfl c44 (ctxOk_cons ok46 rfl c46 (ctxOk_cons ok47 rfl c47 (ctxOk_cons ok50 rfl c50 (ctxOk_cons ok26 rfl c26 (ctxOk_cons ok28 rfl c28 (ctxOk_cons ok29 rfl c29 (ctxOk_cons ok31 rfl c31 (ctxOk_cons ok71 rfl c71 (ctxOk_cons ok96 rfl c96 (ctxOk_cons ok52 rfl c52 (ctxOk_cons ok54 rfl c54 HE_ok)))))))))))
end Go.Proofs.Ytcgolglcjfknpaa

/- What rime/rimeref01.Split comes to. MADE BY PROGRAM (wip/tools/mkfn.py, EngGen.lean). -/
namespace Go.Proofs.Ytcgolglcjfknpaa
open Go Go.Eng
set_option maxRecDepth 100000
set_option linter.unusedVariables false

def f14_0_sh : Shp := { n := 38, lo := 1, slots := [(2, .one (.fix (At.ptr 2 0 Off.z 5))), (3, .one (.fix (At.ptr 3 0 Off.z 32))), (4, .one (.fix (At.ptr 4 0 Off.z 5))), (5, .one (.int IntKind.i64))], items := [(2, .obj [.ints IntKind.u64 5]), (3, .obj [.ints IntKind.u8 32]), (4, .obj [.ints IntKind.u64 5])] }
def f14_0_ex1 : Shp := { n := 38, lo := 1, slots := [(11, .one (.bool)), (2, .one (.fix (At.ptr 2 0 Off.z 5))), (3, .one (.fix (At.ptr 3 0 Off.z 32))), (4, .one (.fix (At.ptr 4 0 Off.z 5))), (5, .one (.int IntKind.i64))], items := [(2, .obj [.ints IntKind.u64 5]), (3, .obj [.ints IntKind.u8 32]), (4, .obj [.ints IntKind.u64 5])] }
noncomputable def f14_0_st {R : Type} (N : Nat) (self : Int → List Int → List Int → List Int → Option R) (k1 : Bool → Int → List Int → List Int → List Int → Option R) (x1 : Int) (x2 : List Int) (x3 : List Int) (x4 : List Int) : Option R :=
 bif Decidable.decide (x1 < 255) then
 let v0 : Int := IntKind.i64.wrap (x1.tdiv 8);
 bif Decidable.decide (0 ≤ v0) && Decidable.decide (v0 < 32) then
 let v1 : Int := IntKind.u64.wrap (x1.tmod 8);
 bif Decidable.decide (0 ≤ v1) then
 let v2 : Int := IntKind.i64.wrap (x1.tdiv 51);
 bif Decidable.decide (0 ≤ v2) && Decidable.decide (v2 < 5) then
 let v3 : Int := IntKind.u64.wrap (x1.tmod 51);
 bif Decidable.decide (0 ≤ v3) then
 bif Decidable.decide (0 ≤ v2) && Decidable.decide (v2 < 5) then
 let v4 : Int := IntKind.i64.wrap (x1 + 1);
 let v5 : Int := shrI IntKind.u8 (x3.getD (mulE v0.toNat 1) 0) v1;
 let v6 : Int := IntKind.u64.wrap v5;
 let v7 : Int := andI IntKind.u64 v6 1;
 let v8 : Int := shlI IntKind.u64 v7 v3;
 let v9 : Int := orI IntKind.u64 (x4.getD (mulE v2.toNat 1) 0) v8;
 let v10 : List Int := x4.set (mulE v2.toNat 1) v9;
 self v4 x2 x3 v10
 else Option.none
 else Option.none
 else Option.none
 else Option.none
 else Option.none
else k1 (Decidable.decide (x1 < 255)) x1 x2 x3 x4
noncomputable def f14_0_lp {R : Type} (N : Nat) (k1 : Bool → Int → List Int → List Int → List Int → Option R) : Nat → Int → List Int → List Int → List Int → Option R
 | 0, _, _, _, _ => none
 | n + 1, x1, x2, x3, x4 => f14_0_st N (f14_0_lp N k1 n) k1 x1 x2 x3 x4
noncomputable def f14_0_F (N : Nat) : (R : Type) → List Leaf → (X → AS → Option R) → Option R := fun _ ls K => match ls with
 | [.i x1, .l x2, .l x3, .l x4] => f14_0_lp N (fun y1 y2 y3 y4 y5 => K (X.normal) (fill f14_0_ex1 [.b y1, .i y2, .l y3, .l y4, .l y5])) N x1 x2 x3 x4
 | _ => none
noncomputable def f14_raw {R : Type} (N : Nat) (x : List Int) (k : List DV → Option R) : Option R :=
 bif okB x then bif okD (refN (vB x)) then f14_0_lp N (fun w0_1 w0_2 w0_3 w0_4 w0_5 => k [DV.v (SV.one (At.ints IntKind.u64 5 w0_5))]) N 0 (List.replicate 5 0) (feN (numD (refN (vB x)))) (List.replicate 5 0) else Option.none else Option.none


noncomputable def E14 (N : Nat) : Env := { Θ := Th, Γ := HF, K := K14, ν := N14, fuel := 0, lp := [(0, mkL N14_0 f14_0_sh (f14_0_F N))] }

theorem f14_0_st_eq {R : Type} (N : Nat) (K : X → AS → Option R) (n : Nat) (x1 : Int) (x2 : List Int) (x3 : List Int) (x4 : List Int) : roundsOf (E14 N) N14_0 0 B14_0 K (n + 1) (fill f14_0_sh [.i x1, .l x2, .l x3, .l x4]) = f14_0_st N (fun x1 x2 x3 x4 => roundsOf (E14 N) N14_0 0 B14_0 K n (fill f14_0_sh [.i x1, .l x2, .l x3, .l x4])) (fun y1 y2 y3 y4 y5 => K (X.normal) (fill f14_0_ex1 [.b y1, .i y2, .l y3, .l y4, .l y5])) x1 x2 x3 x4 := by kernel_rfl
theorem f14_0_lp_eq {R : Type} (N : Nat) (K : X → AS → Option R) : ∀ (n : Nat) (x1 : Int) (x2 : List Int) (x3 : List Int) (x4 : List Int), roundsOf (E14 N) N14_0 0 B14_0 K n (fill f14_0_sh [.i x1, .l x2, .l x3, .l x4]) = f14_0_lp N (fun y1 y2 y3 y4 y5 => K (X.normal) (fill f14_0_ex1 [.b y1, .i y2, .l y3, .l y4, .l y5])) n x1 x2 x3 x4
  | 0, _, _, _, _ => rfl
  | n + 1, x1, x2, x3, x4 => by
    rw [f14_0_st_eq, f14_0_lp, show (fun x1 x2 x3 x4 => roundsOf (E14 N) N14_0 0 B14_0 K n (fill f14_0_sh [.i x1, .l x2, .l x3, .l x4])) = f14_0_lp N (fun y1 y2 y3 y4 y5 => K (X.normal) (fill f14_0_ex1 [.b y1, .i y2, .l y3, .l y4, .l y5])) n from by funext x1 x2 x3 x4; exact f14_0_lp_eq N K n x1 x2 x3 x4]
theorem f14_0_ok (N : Nat) (hlp : LoopsOk Try.prog (E14 N).lp B14_0) (hΓ : CtxOk Try.prog (E14 N).Γ) : LoopOk Try.prog (mkL N14_0 f14_0_sh (f14_0_F N)) 0 B14_0 := by
  refine loopOk_of (E := E14 N) thOk hΓ mixed hlp ?_
  intro R ls K r h
  unfold f14_0_F at h
  split at h
  · exact ⟨N, by rw [f14_0_lp_eq]; exact h⟩
  · cases h

theorem lok14_0 (N : Nat) (hΓ : CtxOk Try.prog HF) : LoopOk Try.prog (mkL N14_0 f14_0_sh (f14_0_F N)) 0 B14_0 := f14_0_ok N (loopsOk_of (l := []) (by kernel_rfl) trivial) hΓ
theorem f14_contract (N : Nat) (hΓ : CtxOk Try.prog HF) : Contract Try.prog 14 { sig := S14, impl := fun _ ds k => call (E14 N) S14 38 B14 R14 ds k } :=
  call_contract (E := E14 N) thOk hΓ mixed ok14.look ok14.body ok14.n ok14.rv ok14.name rfl (by decide) (loopsOk_of (l := [(0, B14_0)]) (by kernel_rfl) (allOk_cons (L := mkL N14_0 f14_0_sh (f14_0_F N)) rfl (lok14_0 N hΓ) trivial))
theorem f14_raw_eq {R : Type} (N : Nat) (x : List Int) (k : List DV → Option R) : call (E14 N) S14 38 B14 R14 [.v (.one (.ints .u8 32 x))] k = f14_raw N x k := by kernel_rfl
end Go.Proofs.Ytcgolglcjfknpaa

/- What rime/rimeref01.Join comes to. MADE BY PROGRAM (wip/tools/mkfn.py, EngGen.lean). -/
namespace Go.Proofs.Ytcgolglcjfknpaa
open Go Go.Eng
set_option maxRecDepth 100000
set_option linter.unusedVariables false

def f16_2_sh : Shp := { n := 59, lo := 1, slots := [(1, .one (.fix (At.ptr 1 0 Off.z 5))), (2, .one (.fix (At.ptr 2 0 Off.z 32))), (3, .one (.fix (At.own 9))), (4, .one (.fix (At.ptr 4 0 Off.z 32))), (5, .one (.int IntKind.i64)), (6, .one (.int IntKind.i64))], items := [(1, .obj [.ints IntKind.u64 5]), (2, .obj [.ints IntKind.u8 32]), (4, .obj [.ints IntKind.u8 32]), (9, .row IntKind.u8 1)] }
def f16_2_ex1 : Shp := { n := 59, lo := 1, slots := [(18, .one (.bool)), (1, .one (.fix (At.ptr 1 0 Off.z 5))), (2, .one (.fix (At.ptr 2 0 Off.z 32))), (3, .one (.fix (At.own 9))), (4, .one (.fix (At.ptr 4 0 Off.z 32))), (5, .one (.int IntKind.i64)), (6, .one (.int IntKind.i64))], items := [(1, .obj [.ints IntKind.u64 5]), (2, .obj [.ints IntKind.u8 32]), (4, .obj [.ints IntKind.u8 32]), (9, .row IntKind.u8 1)] }
noncomputable def f16_2_st {R : Type} (N : Nat) (self : Int → Int → List Int → List Int → List Int → List Int → Option R) (k1 : Bool → Int → Int → List Int → List Int → List Int → List Int → Option R) (x1 : Int) (x2 : Int) (x3 : List Int) (x4 : List Int) (x5 : List Int) (x6 : List Int) : Option R :=
 bif Decidable.decide (x2 < nI (rowLen 1 x6)) then
 bif Decidable.decide (0 ≤ x2) && Decidable.decide (x2 < nI (rowLen 1 x6)) then
 let v0 : Int := IntKind.i64.wrap (x2 + 1);
 let v1 : List Int := x6.set (mulE x2.toNat 1) 0;
 self x1 v0 x3 x4 x5 v1
 else Option.none
else k1 (Decidable.decide (x2 < nI (rowLen 1 x6))) x1 x2 x3 x4 x5 x6
noncomputable def f16_2_lp {R : Type} (N : Nat) (k1 : Bool → Int → Int → List Int → List Int → List Int → List Int → Option R) : Nat → Int → Int → List Int → List Int → List Int → List Int → Option R
 | 0, _, _, _, _, _, _ => none
 | n + 1, x1, x2, x3, x4, x5, x6 => f16_2_st N (f16_2_lp N k1 n) k1 x1 x2 x3 x4 x5 x6
noncomputable def f16_2_F (N : Nat) : (R : Type) → List Leaf → (X → AS → Option R) → Option R := fun _ ls K => match ls with
 | [.i x1, .i x2, .l x3, .l x4, .l x5, .l x6] => f16_2_lp N (fun y1 y2 y3 y4 y5 y6 y7 => K (X.normal) (fill f16_2_ex1 [.b y1, .i y2, .i y3, .l y4, .l y5, .l y6, .l y7])) N x1 x2 x3 x4 x5 x6
 | _ => none
def f16_4_sh : Shp := { n := 59, lo := 1, slots := [(1, .one (.fix (At.ptr 1 0 Off.z 5))), (2, .one (.fix (At.ptr 2 0 Off.z 32))), (3, .one (.fix (At.own 9))), (4, .one (.fix (At.ptr 4 0 Off.z 32))), (5, .one (.int IntKind.i64)), (7, .one (.int IntKind.i64))], items := [(1, .obj [.ints IntKind.u64 5]), (2, .obj [.ints IntKind.u8 32]), (4, .obj [.ints IntKind.u8 32]), (9, .row IntKind.u8 1)] }
def f16_4_ex1 : Shp := { n := 59, lo := 1, slots := [(25, .one (.bool)), (1, .one (.fix (At.ptr 1 0 Off.z 5))), (2, .one (.fix (At.ptr 2 0 Off.z 32))), (3, .one (.fix (At.own 9))), (4, .one (.fix (At.ptr 4 0 Off.z 32))), (5, .one (.int IntKind.i64)), (7, .one (.int IntKind.i64))], items := [(1, .obj [.ints IntKind.u64 5]), (2, .obj [.ints IntKind.u8 32]), (4, .obj [.ints IntKind.u8 32]), (9, .row IntKind.u8 1)] }
noncomputable def f16_4_st {R : Type} (N : Nat) (self : Int → Int → List Int → List Int → List Int → List Int → Option R) (k1 : Bool → Int → Int → List Int → List Int → List Int → List Int → Option R) (x1 : Int) (x2 : Int) (x3 : List Int) (x4 : List Int) (x5 : List Int) (x6 : List Int) : Option R :=
 bif Decidable.decide (x2 < 64) then
 bif Decidable.decide (0 ≤ x1) && Decidable.decide (x1 < 5) then
 let v0 : Int := IntKind.u64.wrap x2;
 bif Decidable.decide (0 ≤ v0) then
 let v1 : Int := shrI IntKind.u64 (x3.getD (mulE x1.toNat 1) 0) v0;
 let v2 : Int := andI IntKind.u64 v1 1;
 bif v2 == 1 then
 let v3 : Int := IntKind.i64.wrap (51 * x1);
 let v4 : Int := IntKind.i64.wrap (v3 + x2);
 let v5 : Int := IntKind.i64.wrap (v4.tdiv 8);
 bif Decidable.decide (0 ≤ v5) && Decidable.decide (v5 < nI (rowLen 1 x6)) then
 let v6 : Int := IntKind.u64.wrap (v4.tmod 8);
 bif Decidable.decide (0 ≤ v6) then
 bif Decidable.decide (0 ≤ v5) && Decidable.decide (v5 < nI (rowLen 1 x6)) then
 let v7 : Int := IntKind.i64.wrap (x2 + 1);
 let v8 : Int := shlI IntKind.u8 1 v6;
 let v9 : Int := orI IntKind.u8 (x6.getD (mulE v5.toNat 1) 0) v8;
 let v10 : List Int := x6.set (mulE v5.toNat 1) v9;
 self x1 v7 x3 x4 x5 v10
 else Option.none
 else Option.none
 else Option.none
 else
 let v11 : Int := IntKind.i64.wrap (x2 + 1);
 self x1 v11 x3 x4 x5 x6
 else Option.none
 else Option.none
else k1 (Decidable.decide (x2 < 64)) x1 x2 x3 x4 x5 x6
noncomputable def f16_4_lp {R : Type} (N : Nat) (k1 : Bool → Int → Int → List Int → List Int → List Int → List Int → Option R) : Nat → Int → Int → List Int → List Int → List Int → List Int → Option R
 | 0, _, _, _, _, _, _ => none
 | n + 1, x1, x2, x3, x4, x5, x6 => f16_4_st N (f16_4_lp N k1 n) k1 x1 x2 x3 x4 x5 x6
noncomputable def f16_4_F (N : Nat) : (R : Type) → List Leaf → (X → AS → Option R) → Option R := fun _ ls K => match ls with
 | [.i x1, .i x2, .l x3, .l x4, .l x5, .l x6] => f16_4_lp N (fun y1 y2 y3 y4 y5 y6 y7 => K (X.normal) (fill f16_4_ex1 [.b y1, .i y2, .i y3, .l y4, .l y5, .l y6, .l y7])) N x1 x2 x3 x4 x5 x6
 | _ => none
def f16_0_sh : Shp := { n := 59, lo := 1, slots := [(1, .one (.fix (At.ptr 1 0 Off.z 5))), (2, .one (.fix (At.ptr 2 0 Off.z 32))), (3, .one (.fix (At.own 9))), (4, .one (.fix (At.ptr 4 0 Off.z 32))), (5, .one (.int IntKind.i64))], items := [(1, .obj [.ints IntKind.u64 5]), (2, .obj [.ints IntKind.u8 32]), (4, .obj [.ints IntKind.u8 32]), (9, .row IntKind.u8 1)] }
def f16_0_ex1 : Shp := { n := 59, lo := 1, slots := [(12, .one (.bool)), (1, .one (.fix (At.ptr 1 0 Off.z 5))), (2, .one (.fix (At.ptr 2 0 Off.z 32))), (3, .one (.fix (At.own 9))), (4, .one (.fix (At.ptr 4 0 Off.z 32))), (5, .one (.int IntKind.i64))], items := [(1, .obj [.ints IntKind.u64 5]), (2, .obj [.ints IntKind.u8 32]), (4, .obj [.ints IntKind.u8 32]), (9, .row IntKind.u8 1)] }
noncomputable def f16_0_st {R : Type} (N : Nat) (self : Int → List Int → List Int → List Int → List Int → Option R) (k1 : Bool → Int → List Int → List Int → List Int → List Int → Option R) (x1 : Int) (x2 : List Int) (x3 : List Int) (x4 : List Int) (x5 : List Int) : Option R :=
 bif Decidable.decide (x1 < 5) then
 f16_2_lp N
 (fun w0_1 w0_2 w0_3 w0_4 w0_5 w0_6 w0_7 =>
 f16_4_lp N
 (fun w1_1 w1_2 w1_3 w1_4 w1_5 w1_6 w1_7 =>
 bif okE w1_7 && Decidable.decide (w1_7.length ≤ 63) then
 bif okB w1_6 && okB (feN (numB w1_7 % p25519)) then
 let v2 : Int := IntKind.i64.wrap (w1_2 + 1);
 self v2 w1_4 w1_5 (feN (addN (vB w1_6) (vB (feN (numB w1_7 % p25519))))) w1_7
 else Option.none
 else Option.none)
 N w0_2 0 w0_4 w0_5 w0_6 w0_7)
 N x1 0 x2 x3 x4 x5
else k1 (Decidable.decide (x1 < 5)) x1 x2 x3 x4 x5
noncomputable def f16_0_lp {R : Type} (N : Nat) (k1 : Bool → Int → List Int → List Int → List Int → List Int → Option R) : Nat → Int → List Int → List Int → List Int → List Int → Option R
 | 0, _, _, _, _, _ => none
 | n + 1, x1, x2, x3, x4, x5 => f16_0_st N (f16_0_lp N k1 n) k1 x1 x2 x3 x4 x5
noncomputable def f16_0_F (N : Nat) : (R : Type) → List Leaf → (X → AS → Option R) → Option R := fun _ ls K => match ls with
 | [.i x1, .l x2, .l x3, .l x4, .l x5] => f16_0_lp N (fun y1 y2 y3 y4 y5 y6 => K (X.normal) (fill f16_0_ex1 [.b y1, .i y2, .l y3, .l y4, .l y5, .l y6])) N x1 x2 x3 x4 x5
 | _ => none
noncomputable def f16_raw {R : Type} (N : Nat) (x : List Int) (k : List DV → Option R) : Option R :=
 f16_0_lp N (fun w0_1 w0_2 w0_3 w0_4 w0_5 w0_6 => k [DV.v (SV.one (At.ints IntKind.u8 32 w0_5))]) N 0 x (List.replicate 32 0) (List.replicate 32 0) (zerosOf (mulE (Int.toNat 40) 1))


noncomputable def E16 (N : Nat) : Env := { Θ := Th, Γ := HF, K := K16, ν := N16, fuel := 0, lp := [(0, mkL N16_0 f16_0_sh (f16_0_F N)), (2, mkL N16_2 f16_2_sh (f16_2_F N)), (4, mkL N16_4 f16_4_sh (f16_4_F N))] }

theorem f16_2_st_eq {R : Type} (N : Nat) (K : X → AS → Option R) (n : Nat) (x1 : Int) (x2 : Int) (x3 : List Int) (x4 : List Int) (x5 : List Int) (x6 : List Int) : roundsOf (E16 N) N16_2 2 B16_2 K (n + 1) (fill f16_2_sh [.i x1, .i x2, .l x3, .l x4, .l x5, .l x6]) = f16_2_st N (fun x1 x2 x3 x4 x5 x6 => roundsOf (E16 N) N16_2 2 B16_2 K n (fill f16_2_sh [.i x1, .i x2, .l x3, .l x4, .l x5, .l x6])) (fun y1 y2 y3 y4 y5 y6 y7 => K (X.normal) (fill f16_2_ex1 [.b y1, .i y2, .i y3, .l y4, .l y5, .l y6, .l y7])) x1 x2 x3 x4 x5 x6 := by kernel_rfl
theorem f16_2_lp_eq {R : Type} (N : Nat) (K : X → AS → Option R) : ∀ (n : Nat) (x1 : Int) (x2 : Int) (x3 : List Int) (x4 : List Int) (x5 : List Int) (x6 : List Int), roundsOf (E16 N) N16_2 2 B16_2 K n (fill f16_2_sh [.i x1, .i x2, .l x3, .l x4, .l x5, .l x6]) = f16_2_lp N (fun y1 y2 y3 y4 y5 y6 y7 => K (X.normal) (fill f16_2_ex1 [.b y1, .i y2, .i y3, .l y4, .l y5, .l y6, .l y7])) n x1 x2 x3 x4 x5 x6
  | 0, _, _, _, _, _, _ => rfl
  | n + 1, x1, x2, x3, x4, x5, x6 => by
    rw [f16_2_st_eq, f16_2_lp, show (fun x1 x2 x3 x4 x5 x6 => roundsOf (E16 N) N16_2 2 B16_2 K n (fill f16_2_sh [.i x1, .i x2, .l x3, .l x4, .l x5, .l x6])) = f16_2_lp N (fun y1 y2 y3 y4 y5 y6 y7 => K (X.normal) (fill f16_2_ex1 [.b y1, .i y2, .i y3, .l y4, .l y5, .l y6, .l y7])) n from by funext x1 x2 x3 x4 x5 x6; exact f16_2_lp_eq N K n x1 x2 x3 x4 x5 x6]
theorem f16_2_ok (N : Nat) (hlp : LoopsOk Try.prog (E16 N).lp B16_2) (hΓ : CtxOk Try.prog (E16 N).Γ) : LoopOk Try.prog (mkL N16_2 f16_2_sh (f16_2_F N)) 2 B16_2 := by
  refine loopOk_of (E := E16 N) thOk hΓ mixed hlp ?_
  intro R ls K r h
  unfold f16_2_F at h
  split at h
  · exact ⟨N, by rw [f16_2_lp_eq]; exact h⟩
  · cases h
theorem f16_4_st_eq {R : Type} (N : Nat) (K : X → AS → Option R) (n : Nat) (x1 : Int) (x2 : Int) (x3 : List Int) (x4 : List Int) (x5 : List Int) (x6 : List Int) : roundsOf (E16 N) N16_4 4 B16_4 K (n + 1) (fill f16_4_sh [.i x1, .i x2, .l x3, .l x4, .l x5, .l x6]) = f16_4_st N (fun x1 x2 x3 x4 x5 x6 => roundsOf (E16 N) N16_4 4 B16_4 K n (fill f16_4_sh [.i x1, .i x2, .l x3, .l x4, .l x5, .l x6])) (fun y1 y2 y3 y4 y5 y6 y7 => K (X.normal) (fill f16_4_ex1 [.b y1, .i y2, .i y3, .l y4, .l y5, .l y6, .l y7])) x1 x2 x3 x4 x5 x6 := by kernel_rfl
theorem f16_4_lp_eq {R : Type} (N : Nat) (K : X → AS → Option R) : ∀ (n : Nat) (x1 : Int) (x2 : Int) (x3 : List Int) (x4 : List Int) (x5 : List Int) (x6 : List Int), roundsOf (E16 N) N16_4 4 B16_4 K n (fill f16_4_sh [.i x1, .i x2, .l x3, .l x4, .l x5, .l x6]) = f16_4_lp N (fun y1 y2 y3 y4 y5 y6 y7 => K (X.normal) (fill f16_4_ex1 [.b y1, .i y2, .i y3, .l y4, .l y5, .l y6, .l y7])) n x1 x2 x3 x4 x5 x6
  | 0, _, _, _, _, _, _ => rfl
  | n + 1, x1, x2, x3, x4, x5, x6 => by
    rw [f16_4_st_eq, f16_4_lp, show (fun x1 x2 x3 x4 x5 x6 => roundsOf (E16 N) N16_4 4 B16_4 K n (fill f16_4_sh [.i x1, .i x2, .l x3, .l x4, .l x5, .l x6])) = f16_4_lp N (fun y1 y2 y3 y4 y5 y6 y7 => K (X.normal) (fill f16_4_ex1 [.b y1, .i y2, .i y3, .l y4, .l y5, .l y6, .l y7])) n from by funext x1 x2 x3 x4 x5 x6; exact f16_4_lp_eq N K n x1 x2 x3 x4 x5 x6]
theorem f16_4_ok (N : Nat) (hlp : LoopsOk Try.prog (E16 N).lp B16_4) (hΓ : CtxOk Try.prog (E16 N).Γ) : LoopOk Try.prog (mkL N16_4 f16_4_sh (f16_4_F N)) 4 B16_4 := by
  refine loopOk_of (E := E16 N) thOk hΓ mixed hlp ?_
  intro R ls K r h
  unfold f16_4_F at h
  split at h
  · exact ⟨N, by rw [f16_4_lp_eq]; exact h⟩
  · cases h
theorem f16_0_st_eq {R : Type} (N : Nat) (K : X → AS → Option R) (n : Nat) (x1 : Int) (x2 : List Int) (x3 : List Int) (x4 : List Int) (x5 : List Int) : roundsOf (E16 N) N16_0 0 B16_0 K (n + 1) (fill f16_0_sh [.i x1, .l x2, .l x3, .l x4, .l x5]) = f16_0_st N (fun x1 x2 x3 x4 x5 => roundsOf (E16 N) N16_0 0 B16_0 K n (fill f16_0_sh [.i x1, .l x2, .l x3, .l x4, .l x5])) (fun y1 y2 y3 y4 y5 y6 => K (X.normal) (fill f16_0_ex1 [.b y1, .i y2, .l y3, .l y4, .l y5, .l y6])) x1 x2 x3 x4 x5 := by kernel_rfl
theorem f16_0_lp_eq {R : Type} (N : Nat) (K : X → AS → Option R) : ∀ (n : Nat) (x1 : Int) (x2 : List Int) (x3 : List Int) (x4 : List Int) (x5 : List Int), roundsOf (E16 N) N16_0 0 B16_0 K n (fill f16_0_sh [.i x1, .l x2, .l x3, .l x4, .l x5]) = f16_0_lp N (fun y1 y2 y3 y4 y5 y6 => K (X.normal) (fill f16_0_ex1 [.b y1, .i y2, .l y3, .l y4, .l y5, .l y6])) n x1 x2 x3 x4 x5
  | 0, _, _, _, _, _ => rfl
  | n + 1, x1, x2, x3, x4, x5 => by
    rw [f16_0_st_eq, f16_0_lp, show (fun x1 x2 x3 x4 x5 => roundsOf (E16 N) N16_0 0 B16_0 K n (fill f16_0_sh [.i x1, .l x2, .l x3, .l x4, .l x5])) = f16_0_lp N (fun y1 y2 y3 y4 y5 y6 => K (X.normal) (fill f16_0_ex1 [.b y1, .i y2, .l y3, .l y4, .l y5, .l y6])) n from by funext x1 x2 x3 x4 x5; exact f16_0_lp_eq N K n x1 x2 x3 x4 x5]
theorem f16_0_ok (N : Nat) (hlp : LoopsOk Try.prog (E16 N).lp B16_0) (hΓ : CtxOk Try.prog (E16 N).Γ) : LoopOk Try.prog (mkL N16_0 f16_0_sh (f16_0_F N)) 0 B16_0 := by
  refine loopOk_of (E := E16 N) thOk hΓ mixed hlp ?_
  intro R ls K r h
  unfold f16_0_F at h
  split at h
  · exact ⟨N, by rw [f16_0_lp_eq]; exact h⟩
  · cases h

theorem lok16_4 (N : Nat) (hΓ : CtxOk Try.prog HF) : LoopOk Try.prog (mkL N16_4 f16_4_sh (f16_4_F N)) 4 B16_4 := f16_4_ok N (loopsOk_of (l := []) (by kernel_rfl) trivial) hΓ
theorem lok16_2 (N : Nat) (hΓ : CtxOk Try.prog HF) : LoopOk Try.prog (mkL N16_2 f16_2_sh (f16_2_F N)) 2 B16_2 := f16_2_ok N (loopsOk_of (l := []) (by kernel_rfl) trivial) hΓ
theorem lok16_0 (N : Nat) (hΓ : CtxOk Try.prog HF) : LoopOk Try.prog (mkL N16_0 f16_0_sh (f16_0_F N)) 0 B16_0 := f16_0_ok N (loopsOk_of (l := [(2, B16_2), (4, B16_4)]) (by kernel_rfl) (allOk_cons (L := mkL N16_2 f16_2_sh (f16_2_F N)) rfl (lok16_2 N hΓ) (allOk_cons (L := mkL N16_4 f16_4_sh (f16_4_F N)) rfl (lok16_4 N hΓ) trivial))) hΓ
theorem f16_contract (N : Nat) (hΓ : CtxOk Try.prog HF) : Contract Try.prog 16 { sig := S16, impl := fun _ ds k => call (E16 N) S16 59 B16 R16 ds k } :=
  call_contract (E := E16 N) thOk hΓ mixed ok16.look ok16.body ok16.n ok16.rv ok16.name rfl (by decide) (loopsOk_of (l := [(0, B16_0), (2, B16_2), (4, B16_4)]) (by kernel_rfl) (allOk_cons (L := mkL N16_0 f16_0_sh (f16_0_F N)) rfl (lok16_0 N hΓ) (allOk_cons (L := mkL N16_2 f16_2_sh (f16_2_F N)) rfl (lok16_2 N hΓ) (allOk_cons (L := mkL N16_4 f16_4_sh (f16_4_F N)) rfl (lok16_4 N hΓ) trivial))))
theorem f16_raw_eq {R : Type} (N : Nat) (x : List Int) (k : List DV → Option R) : call (E16 N) S16 59 B16 R16 [.v (.one (.ints .u64 5 x))] k = f16_raw N x k := by kernel_rfl
end Go.Proofs.Ytcgolglcjfknpaa

/- What rime/field.Reduce comes to. MADE BY PROGRAM (wip/tools/mkfn.py, EngGen.lean). -/
namespace Go.Proofs.Ytcgolglcjfknpaa
open Go Go.Eng
set_option maxRecDepth 100000
set_option linter.unusedVariables false

def f63_0_sh : Shp := { n := 32, lo := 1, slots := [(0, .one (.fix (At.own 0))), (2, .one (.fix (At.ptr 2 0 Off.z 32))), (3, .one (.fix (At.ptr 3 0 Off.z 5))), (4, .one (.fix (At.ptr 4 0 Off.z 5))), (5, .one (.int IntKind.i64))], items := [(0, .view IntKind.u8 1), (2, .obj [.ints IntKind.u8 32]), (3, .obj [.ints IntKind.u64 5]), (4, .obj [.ints IntKind.u64 5])] }
def f63_0_ex1 : Shp := { n := 32, lo := 1, slots := [(15, .one (.bool)), (0, .one (.fix (At.own 0))), (2, .one (.fix (At.ptr 2 0 Off.z 32))), (3, .one (.fix (At.ptr 3 0 Off.z 5))), (4, .one (.fix (At.ptr 4 0 Off.z 5))), (5, .one (.int IntKind.i64))], items := [(0, .view IntKind.u8 1), (2, .obj [.ints IntKind.u8 32]), (3, .obj [.ints IntKind.u64 5]), (4, .obj [.ints IntKind.u64 5])] }
noncomputable def f63_0_st {R : Type} (N : Nat) (self : Int → List Int → List Int → List Int → List Int → Option R) (k1 : Bool → Int → List Int → List Int → List Int → List Int → Option R) (x1 : Int) (x2 : List Int) (x3 : List Int) (x4 : List Int) (x5 : List Int) : Option R :=
 bif Decidable.decide (x1 > 0) then
 let v0 : Int := IntKind.i64.wrap (x1 - 32);
 bif loOk (Option.some v0) (hiInt Option.none (rowLen 1 x2)) then
 let v1 : List Int := Go.Eng.sub x2 (plusO Off.z 1 (Option.some v0)) (mulE (Go.Eng.subN (hiNat Option.none (rowLen 1 x2)) (Option.some v0)) 1);
 let v2 : Nat := Min.min (rowLen 1 v1) (Go.Eng.subN (hiNat Option.none 32) Option.none);
 let v3 : List Int := splice (List.replicate 32 0) (plusO Off.z 1 Option.none) (List.take (mulE v2 1) v1);
 self v0 x2 x3 (plusL (timesL x4 x5) (loadL v3)) x5
 else Option.none
else k1 (Decidable.decide (x1 > 0)) x1 x2 x3 x4 x5
noncomputable def f63_0_lp {R : Type} (N : Nat) (k1 : Bool → Int → List Int → List Int → List Int → List Int → Option R) : Nat → Int → List Int → List Int → List Int → List Int → Option R
 | 0, _, _, _, _, _ => none
 | n + 1, x1, x2, x3, x4, x5 => f63_0_st N (f63_0_lp N k1 n) k1 x1 x2 x3 x4 x5
noncomputable def f63_0_F (N : Nat) : (R : Type) → List Leaf → (X → AS → Option R) → Option R := fun _ ls K => match ls with
 | [.i x1, .l x2, .l x3, .l x4, .l x5] => f63_0_lp N (fun y1 y2 y3 y4 y5 y6 => K (X.normal) (fill f63_0_ex1 [.b y1, .i y2, .l y3, .l y4, .l y5, .l y6])) N x1 x2 x3 x4 x5
 | _ => none
noncomputable def f63_raw {R : Type} (N : Nat) (e : List Int) (k : List DV → Option R) : Option R :=
 let v0 : Int := IntKind.i64.wrap (nI (rowLen 1 e) + 31);
let v1 : Int := IntKind.i64.wrap (v0.tdiv 32);
let v2 : Int := IntKind.i64.wrap (v1 * 32);
let v3 : List Int := (List.replicate 5 0).set 0 38;
f63_0_lp N (fun w4_1 w4_2 w4_3 w4_4 w4_5 w4_6 => k [DV.v (SV.one (At.ints IntKind.u8 32 (feL w4_5)))]) N v2 e (List.replicate 32 0) (List.replicate 5 0) v3


noncomputable def E63 (N : Nat) : Env := { Θ := Th, Γ := GJ, K := K63, ν := N63, fuel := 0, lp := [(0, mkL N63_0 f63_0_sh (f63_0_F N))] }

theorem f63_0_st_eq {R : Type} (N : Nat) (K : X → AS → Option R) (n : Nat) (x1 : Int) (x2 : List Int) (x3 : List Int) (x4 : List Int) (x5 : List Int) : roundsOf (E63 N) N63_0 0 B63_0 K (n + 1) (fill f63_0_sh [.i x1, .l x2, .l x3, .l x4, .l x5]) = f63_0_st N (fun x1 x2 x3 x4 x5 => roundsOf (E63 N) N63_0 0 B63_0 K n (fill f63_0_sh [.i x1, .l x2, .l x3, .l x4, .l x5])) (fun y1 y2 y3 y4 y5 y6 => K (X.normal) (fill f63_0_ex1 [.b y1, .i y2, .l y3, .l y4, .l y5, .l y6])) x1 x2 x3 x4 x5 := by kernel_rfl
theorem f63_0_lp_eq {R : Type} (N : Nat) (K : X → AS → Option R) : ∀ (n : Nat) (x1 : Int) (x2 : List Int) (x3 : List Int) (x4 : List Int) (x5 : List Int), roundsOf (E63 N) N63_0 0 B63_0 K n (fill f63_0_sh [.i x1, .l x2, .l x3, .l x4, .l x5]) = f63_0_lp N (fun y1 y2 y3 y4 y5 y6 => K (X.normal) (fill f63_0_ex1 [.b y1, .i y2, .l y3, .l y4, .l y5, .l y6])) n x1 x2 x3 x4 x5
  | 0, _, _, _, _, _ => rfl
  | n + 1, x1, x2, x3, x4, x5 => by
    rw [f63_0_st_eq, f63_0_lp, show (fun x1 x2 x3 x4 x5 => roundsOf (E63 N) N63_0 0 B63_0 K n (fill f63_0_sh [.i x1, .l x2, .l x3, .l x4, .l x5])) = f63_0_lp N (fun y1 y2 y3 y4 y5 y6 => K (X.normal) (fill f63_0_ex1 [.b y1, .i y2, .l y3, .l y4, .l y5, .l y6])) n from by funext x1 x2 x3 x4 x5; exact f63_0_lp_eq N K n x1 x2 x3 x4 x5]
theorem f63_0_ok (N : Nat) (hlp : LoopsOk Try.prog (E63 N).lp B63_0) (hΓ : CtxOk Try.prog (E63 N).Γ) : LoopOk Try.prog (mkL N63_0 f63_0_sh (f63_0_F N)) 0 B63_0 := by
  refine loopOk_of (E := E63 N) thOk hΓ mixed hlp ?_
  intro R ls K r h
  unfold f63_0_F at h
  split at h
  · exact ⟨N, by rw [f63_0_lp_eq]; exact h⟩
  · cases h

theorem lok63_0 (N : Nat) (hΓ : CtxOk Try.prog GJ) : LoopOk Try.prog (mkL N63_0 f63_0_sh (f63_0_F N)) 0 B63_0 := f63_0_ok N (loopsOk_of (l := []) (by kernel_rfl) trivial) hΓ
theorem f63_contract (N : Nat) (hΓ : CtxOk Try.prog GJ) : Contract Try.prog 63 { sig := S63, impl := fun _ ds k => call (E63 N) S63 32 B63 R63 ds k } :=
  call_contract (E := E63 N) thOk hΓ mixed ok63.look ok63.body ok63.n ok63.rv ok63.name rfl (by decide) (loopsOk_of (l := [(0, B63_0)]) (by kernel_rfl) (allOk_cons (L := mkL N63_0 f63_0_sh (f63_0_F N)) rfl (lok63_0 N hΓ) trivial))
theorem f63_raw_eq {R : Type} (N : Nat) (e : List Int) (k : List DV → Option R) : call (E63 N) S63 32 B63 R63 [.lst .u8 1 e] k = f63_raw N e k := by kernel_rfl
end Go.Proofs.Ytcgolglcjfknpaa

/- What rime/field.Decode comes to. MADE BY PROGRAM (wip/tools/mkfn.py, EngGen.lean). -/
namespace Go.Proofs.Ytcgolglcjfknpaa
open Go Go.Eng
set_option maxRecDepth 100000
set_option linter.unusedVariables false

noncomputable def f64_raw {R : Type} (N : Nat) (e : List Int) (k : List DV → Option R) : Option R :=
 bif nI (rowLen 1 e) != 32 then k [DV.v (SV.one (At.ints IntKind.u8 32 (List.replicate 32 0))), DV.v (SV.one (At.int IntKind.i64 3))] else bif Nat.ble 1 32 && Nat.ble 32 (rowLen 1 e) then bif okB (List.take 32 (List.drop 0 e)) then bif Decidable.decide (numB (List.take 32 (List.drop 0 e)) < p25519) then k [DV.v (SV.one (At.ints IntKind.u8 32 (List.take 32 (List.drop 0 e)))), DV.v (SV.one (At.int IntKind.i64 0))] else k [DV.v (SV.one (At.ints IntKind.u8 32 (List.replicate 32 0))), DV.v (SV.one (At.int IntKind.i64 11))] else Option.none else Option.none


noncomputable def E64 (N : Nat) : Env := { Θ := Th, Γ := GJ, K := K64, ν := N64, fuel := 0, lp := [] }


theorem f64_contract (N : Nat) (hΓ : CtxOk Try.prog GJ) : Contract Try.prog 64 { sig := S64, impl := fun _ ds k => call (E64 N) S64 16 B64 R64 ds k } :=
  call_contract (E := E64 N) thOk hΓ mixed ok64.look ok64.body ok64.n ok64.rv ok64.name rfl (by decide) (loopsOk_of (l := []) (by kernel_rfl) trivial)
theorem f64_raw_eq {R : Type} (N : Nat) (e : List Int) (k : List DV → Option R) : call (E64 N) S64 16 B64 R64 [.lst .u8 1 e] k = f64_raw N e k := by kernel_rfl
end Go.Proofs.Ytcgolglcjfknpaa

/- What rime/rimelaw01.num comes to. MADE BY PROGRAM (wip/tools/mkfn.py, EngGen.lean). -/
namespace Go.Proofs.Ytcgolglcjfknpaa
open Go Go.Eng
set_option maxRecDepth 100000
set_option linter.unusedVariables false

noncomputable def f65_raw {R : Type} (N : Nat) (x : Int) (k : List DV → Option R) : Option R :=
 k [DV.v (SV.one (At.int IntKind.i64 x))]


noncomputable def E65 (N : Nat) : Env := { Θ := Th, Γ := GJ, K := K65, ν := N65, fuel := 0, lp := [] }


theorem f65_contract (N : Nat) (hΓ : CtxOk Try.prog GJ) : Contract Try.prog 65 { sig := S65, impl := fun _ ds k => call (E65 N) S65 4 B65 R65 ds k } :=
  call_contract (E := E65 N) thOk hΓ mixed ok65.look ok65.body ok65.n ok65.rv ok65.name rfl (by decide) (loopsOk_of (l := []) (by kernel_rfl) trivial)
theorem f65_raw_eq {R : Type} (N : Nat) (x : Int) (k : List DV → Option R) : call (E65 N) S65 4 B65 R65 [.v (.one (.int .i64 x))] k = f65_raw N x k := by kernel_rfl
end Go.Proofs.Ytcgolglcjfknpaa

/- The numbers p, p - 1, (p - 1) / 2 as bytes, as the laws make them. -/
namespace Go.Proofs.Ytcgolglcjfknpaa
open Go Go.Eng
set_option maxRecDepth 100000
set_option linter.unusedVariables false
noncomputable def E20 (N : Nat) : Env := { Θ := Th, Γ := [], K := K20, ν := N20, fuel := 60, lp := [] }
theorem f20_contract (N : Nat) : Contract Try.prog 20 { sig := S20, impl := fun _ ds k => call (E20 N) S20 20 B20 R20 ds k } :=
  call_contract (E := E20 N) thOk ctxOk_nil mixed ok20.look ok20.body ok20.n ok20.rv ok20.name rfl (by decide) (loopsOk_of (l := [(0, B20_0)]) (by kernel_rfl) (allOk_skip rfl trivial))
noncomputable def E19 (N : Nat) : Env := { Θ := Th, Γ := [], K := K19, ν := N19, fuel := 60, lp := [] }
theorem f19_contract (N : Nat) : Contract Try.prog 19 { sig := S19, impl := fun _ ds k => call (E19 N) S19 42 B19 R19 ds k } :=
  call_contract (E := E19 N) thOk ctxOk_nil mixed ok19.look ok19.body ok19.n ok19.rv ok19.name rfl (by decide) (loopsOk_of (l := [(0, B19_0)]) (by kernel_rfl) (allOk_skip rfl trivial))
def prmL0 : List Int := [237, 255, 255, 255, 255, 255, 255, 255, 255, 255, 255, 255, 255, 255, 255, 255, 255, 255, 255, 255, 255, 255, 255, 255, 255, 255, 255, 255, 255, 255, 255, 127]
def prmL1 : List Int := [236, 255, 255, 255, 255, 255, 255, 255, 255, 255, 255, 255, 255, 255, 255, 255, 255, 255, 255, 255, 255, 255, 255, 255, 255, 255, 255, 255, 255, 255, 255, 127]
def halfL : List Int := [246, 255, 255, 255, 255, 255, 255, 255, 255, 255, 255, 255, 255, 255, 255, 255, 255, 255, 255, 255, 255, 255, 255, 255, 255, 255, 255, 255, 255, 255, 255, 63]

theorem f20_0 {R : Type} (k : List DV → Option R) : call (E20 0) S20 20 B20 R20 [.v (.one (.int .u8 0))] k = k [.lst .u8 1 prmL0] := by kernel_rfl
theorem f20_1 {R : Type} (k : List DV → Option R) : call (E20 0) S20 20 B20 R20 [.v (.one (.int .u8 1))] k = k [.lst .u8 1 prmL1] := by kernel_rfl
theorem f19_1 {R : Type} (k : List DV → Option R) : call (E19 0) S19 42 B19 R19 [.lst .u8 1 prmL1] k = k [.lst .u8 1 halfL] := by kernel_rfl
noncomputable def I20 : (R : Type) → List DV → (List DV → Option R) → Option R := fun _ ds k => match ds with
  | [.v (.one (.int .u8 x))] => bif decide (x = 0) then k [.lst .u8 1 prmL0] else bif decide (x = 1) then k [.lst .u8 1 prmL1] else none
  | _ => none
theorem c20 : Contract Try.prog 20 { sig := S20, impl := I20 } := by
  refine Contract.refine fun R ds k r h => ⟨_, f20_contract 0, ?_⟩
  unfold I20 at h
  split at h
  · rename_i x
    rcases hc : decide (x = 0) with _ | _
    · rw [hc, cond_false] at h
      rcases hd : decide (x = 1) with _ | _
      · rw [hd] at h; cases h
      · rw [hd, cond_true] at h
        rw [decide_eq_true_eq] at hd
        subst hd; rw [f20_1]; exact h
    · rw [hc, cond_true] at h
      rw [decide_eq_true_eq] at hc
      subst hc; rw [f20_0]; exact h
  · cases h
noncomputable def I19 : (R : Type) → List DV → (List DV → Option R) → Option R := fun _ ds k => match ds with
  | [.lst .u8 1 e] => bif decide (e = prmL1) then k [.lst .u8 1 halfL] else none
  | _ => none
theorem c19 : Contract Try.prog 19 { sig := S19, impl := I19 } := by
  refine Contract.refine fun R ds k r h => ⟨_, f19_contract 0, ?_⟩
  unfold I19 at h
  split at h
  · rename_i e
    rcases hc : decide (e = prmL1) with _ | _
    · rw [hc] at h; cases h
    · rw [hc, cond_true] at h
      rw [decide_eq_true_eq] at hc
      subst hc; rw [f19_1]; exact h
  · cases h
theorem GL_ok' : CtxOk Try.prog ((19, { sig := S19, impl := I19 }) :: (20, { sig := S20, impl := I20 }) :: GJ) := ctxOk_cons ok19 rfl c19 (ctxOk_cons ok20 rfl c20 GJ_ok)
noncomputable def GL : Ctx := (999999, noFI) :: (19, { sig := S19, impl := I19 }) :: (20, { sig := S20, impl := I20 }) :: GJ
theorem GL_ok : CtxOk Try.prog GL := ctxOk_prune GL_ok'
theorem okE_prm0 : okE prmL0 = true := by decide
theorem okE_half : okE halfL = true := by decide
theorem num_prm0 : numB prmL0 = p25519 := by decide
theorem num_half : numB halfL = ph := by decide
end Go.Proofs.Ytcgolglcjfknpaa

/- Reduce, Decode, as numbers. -/
namespace Go.Proofs.Ytcgolglcjfknpaa
open Go Go.Eng
set_option maxRecDepth 100000
set_option linter.unusedVariables false

/-- block m of 32 bytes, filled up -/
def blkU (e : List Int) (m : Nat) : List Int := ((e.drop (32 * m)).take (e.length - 32 * m)).take (min ((e.drop (32 * m)).take (e.length - 32 * m)).length 32)
def blkE (e : List Int) (m : Nat) : List Int := blkU e m ++ (List.replicate 32 0).drop (blkU e m).length
def redL (e : List Int) : Nat → List Int → List Int
  | 0, r => r
  | m + 1, r => redL e m (plusL (timesL r [38, 0, 0, 0, 0]) (loadL (blkE e m)))
noncomputable def redV (e : List Int) : Nat → Nat → Nat
  | 0, v => v
  | m + 1, v => redV e m (addN (mulN v 38) (vB (blkE e m)))
def blocks (e : List Int) : Nat := if e.length + 31 < 9223372036854775808 then (e.length + 31) / 32 else 0

theorem f63_in {R : Type} (N : Nat) (k1 : Bool → Int → List Int → List Int → List Int → List Int → Option R) (e z : List Int) :
    ∀ m : Nat, 32 * m ≤ e.length + 31 → 32 * m < 9223372036854775808 → ∀ fuel, m < fuel → ∀ r, f63_0_lp N k1 fuel ((32 * m : Nat) : Int) e z r [38, 0, 0, 0, 0] = k1 false 0 e z (redL e m r) [38, 0, 0, 0, 0] := by
  intro m
  induction m with
  | zero =>
    intro _ _ fuel hf r
    obtain ⟨f, rfl⟩ : ∃ f, fuel = f + 1 := ⟨fuel - 1, by omega⟩
    rfl
  | succ m ih =>
    intro hm hs fuel hf r
    obtain ⟨f, rfl⟩ : ∃ f, fuel = f + 1 := ⟨fuel - 1, by omega⟩
    show f63_0_st N (f63_0_lp N k1 f) k1 _ _ _ _ _ = _
    unfold f63_0_st
    rw [show decide (((32 * (m + 1) : Nat) : Int) > 0) = true from decide_eq_true (by omega), cond_true]
    rw [show IntKind.i64.wrap (((32 * (m + 1) : Nat) : Int) - 32) = ((32 * m : Nat) : Int) by rw [wrapI (by omega) (by omega)]; omega]
    dsimp only
    rw [show loOk (some ((32 * m : Nat) : Int)) (hiInt none (rowLen 1 e)) = true by
      show (decide (0 ≤ ((32 * m : Nat) : Int)) && decide (((32 * m : Nat) : Int) ≤ (e.length : Int))) = true
      rw [decide_eq_true (by omega), decide_eq_true (by omega)]; rfl, cond_true]
    exact ih (by omega) (by omega) f (by omega) _

theorem f63_spec {R : Type} (N : Nat) (e : List Int) (hN : e.length + 1 < N) (he : e.length < 9223372036854775808) (k : List DV → Option R) : f63_raw N e k = k [.v (.one (.ints .u8 32 (feL (redL e (blocks e) [0, 0, 0, 0, 0]))))] := by
  unfold f63_raw
  dsimp only
  rw [show nI (rowLen 1 e) = (e.length : Int) from rfl, show (List.replicate 5 (0 : Int)).set 0 38 = [38, 0, 0, 0, 0] from rfl]
  unfold blocks
  by_cases h : e.length + 31 < 9223372036854775808
  · rw [if_pos h, wrapI (a := (e.length : Int) + 31) (by omega) (by omega)]
    rw [show ((e.length : Int) + 31).tdiv 32 = (((e.length + 31) / 32 : Nat) : Int) from rfl]
    rw [wrapI (a := (((e.length + 31) / 32 : Nat) : Int)) (by omega) (by omega), wrapI (by omega) (by omega)]
    rw [show (((e.length + 31) / 32 : Nat) : Int) * 32 = ((32 * ((e.length + 31) / 32) : Nat) : Int) by omega]
    rw [f63_in N _ e _ ((e.length + 31) / 32) (by omega) (by omega) N (by omega)]
    rfl
  · rw [if_neg h]
    rw [show IntKind.i64.wrap ((e.length : Int) + 31) = -((18446744073709551616 - 31 - e.length : Nat) : Int) by simp [IntKind.wrap, IntKind.bits, IntKind.signed]; omega]
    rw [Int.neg_tdiv, show (((18446744073709551616 - 31 - e.length : Nat) : Int)).tdiv 32 = (((18446744073709551616 - 31 - e.length) / 32 : Nat) : Int) from rfl]
    rw [wrapI (a := -(((18446744073709551616 - 31 - e.length) / 32 : Nat) : Int)) (by omega) (by omega), wrapI (by omega) (by omega)]
    obtain ⟨f, rfl⟩ : ∃ f, N = f + 1 := ⟨N - 1, by omega⟩
    show f63_0_st _ (f63_0_lp _ _ f) _ _ _ _ _ _ = _
    unfold f63_0_st
    rw [show decide (-(((18446744073709551616 - 31 - e.length) / 32 : Nat) : Int) * 32 > 0) = false from decide_eq_false (by omega), cond_false]
    rfl

theorem blkU_mem {e : List Int} {m : Nat} {b : Int} (h : b ∈ blkU e m) : b ∈ e := List.mem_of_mem_drop (List.mem_of_mem_take (List.mem_of_mem_take h))
theorem okE_mem {e : List Int} (h : okE e = true) : ∀ b ∈ e, 0 ≤ b ∧ b < 256 := by
  obtain ⟨_, l, rfl, hl⟩ := okE_of h
  intro b hb
  obtain ⟨n, hn, rfl⟩ := List.mem_map.mp hb
  have := hl n hn
  exact ⟨Int.natCast_nonneg n, Int.ofNat_lt.mpr this⟩
theorem okB_mem {x : List Int} (hl : x.length = 32) (h : ∀ b ∈ x, 0 ≤ b ∧ b < 256) : okB x = true := by
  unfold okB
  rw [decide_eq_true hl, Bool.true_and, List.all_eq_true]
  intro b hb
  rw [Bool.and_eq_true]
  exact ⟨decide_eq_true (h b hb).1, decide_eq_true (h b hb).2⟩
theorem blk_ok {e : List Int} (h : okE e = true) (m : Nat) : okB (blkE e m) = true := by
  refine okB_mem ?_ fun b hb => ?_
  · have : (blkU e m).length ≤ 32 := by
      unfold blkU; rw [List.length_take]; omega
    unfold blkE
    rw [List.length_append, List.length_drop, List.length_replicate]; omega
  · rcases List.mem_append.1 hb with hb | hb
    · exact okE_mem h b (blkU_mem hb)
    · rw [List.eq_of_mem_replicate (List.mem_of_mem_drop hb)]; decide
theorem el38 : El [38, 0, 0, 0, 0] 38 := ⟨38, 0, 0, 0, 0, rfl, ⟨by decide, by decide, by decide, by decide, by decide⟩, by decide⟩
theorem red_el {e : List Int} (h : okE e = true) : ∀ (m : Nat) {r : List Int} {v : Nat}, El r v → El (redL e m r) (redV e m v)
  | 0, _, _, hr => hr
  | m + 1, _, _, hr => red_el h m (plus_N (times_N hr el38) (load_vB (blk_ok h m)))
noncomputable def redN : List Int → Nat := (stk fun e => redV e (blocks e) 0).1
theorem redN_def (e : List Int) : redN e = redV e (blocks e) 0 := congrFun (stk fun e => redV e (blocks e) 0).2 e
theorem redN_el {e : List Int} (h : okE e = true) : El (redL e (blocks e) [0, 0, 0, 0, 0]) (redN e) := by rw [redN_def]; exact red_el h _ zero_el
theorem redN_lt {e : List Int} (h : okE e = true) : redN e < p25519 := (redN_el h).lt
theorem zero_addN {a : Nat} (h : a < p25519) : addN 0 a = a := by rw [addN_def, Nat.zero_add, Nat.mod_eq_of_lt h]
/-- of 32 bytes it is their number -/
theorem redN_32 {e : List Int} (h : okB e = true) : redN e = vB e := by
  have hl : e.length = 32 := by obtain ⟨l, rfl, h, _⟩ := okB_of h; rw [nats_length]; exact h
  rw [redN_def]
  have hb : blocks e = 1 := by unfold blocks; rw [hl]; rfl
  have hk : blkE e 0 = e := by
    have : blkU e 0 = e := by
      unfold blkU
      rw [List.drop_zero, Nat.mul_zero, Nat.sub_zero, List.take_length, hl, List.take_of_length_le (by omega)]
    unfold blkE
    rw [this, hl]
    show e ++ [] = e
    rw [List.append_nil]
  rw [hb]
  show addN (mulN 0 38) (vB (blkE e 0)) = _
  rw [zero_mulN, hk, zero_addN (vB_lt e)]

theorem f63_num {R : Type} (N : Nat) (e : List Int) (he : okE e = true) (hN : e.length + 1 < N) (k : List DV → Option R) : f63_raw N e k = k [.v (.one (.ints .u8 32 (feN (redN e))))] := by
  rw [f63_spec N e hN (okE_of he).1, fe_num (redN_el he)]
noncomputable def I63 : (R : Type) → List DV → (List DV → Option R) → Option R := fun _ ds k => match ds with
  | [.lst .u8 1 e] => bif okE e then k [.v (.one (.ints .u8 32 (feN (redN e))))] else none
  | _ => none
theorem c63 : Contract Try.prog 63 { sig := S63, impl := I63 } := by
  refine Contract.refine fun R ds k r h => ?_
  unfold I63 at h
  split at h
  · rename_i e
    rcases hc : okE e with _ | _
    · rw [hc] at h; cases h
    · rw [hc, cond_true] at h
      refine ⟨_, f63_contract (e.length + 2) GJ_ok, ?_⟩
      rw [f63_raw_eq, f63_num _ e hc (by omega)]; exact h
  · cases h

/-- what Decode answers: bytes, error -/
noncomputable def decB : List Int → List Int := (stk fun e => bif e.length == 32 && decide (numB e < p25519) then e else List.replicate 32 0).1
theorem decB_def (e : List Int) : decB e = bif e.length == 32 && decide (numB e < p25519) then e else List.replicate 32 0 := congrFun (stk fun e : List Int => bif e.length == 32 && decide (numB e < p25519) then e else List.replicate 32 0).2 e
noncomputable def decE : List Int → Int := (stk fun e => bif e.length == 32 then bif decide (numB e < p25519) then 0 else 11 else 3).1
theorem decE_def (e : List Int) : decE e = bif e.length == 32 then bif decide (numB e < p25519) then 0 else 11 else 3 := congrFun (stk fun e : List Int => bif e.length == 32 then bif decide (numB e < p25519) then (0 : Int) else 11 else 3).2 e
theorem f64_num {R : Type} (e : List Int) (he : okE e = true) (k : List DV → Option R) : f64_raw 0 e k = k [.v (.one (.ints .u8 32 (decB e))), .v (.one (.int .i64 (decE e)))] := by
  unfold f64_raw
  rw [show nI (rowLen 1 e) = (e.length : Int) from rfl, decB_def, decE_def]
  by_cases h : e.length = 32
  · rw [show rowLen 1 e = 32 from h, List.drop_zero, List.take_of_length_le (Nat.le_of_eq h), h]
    rw [okB_mem h (okE_mem he)]
    cases decide (numB e < p25519) <;> rfl
  · rw [show ((e.length : Int) != 32) = true by rw [bne_iff_ne]; omega, cond_true, show (e.length == 32) = false by rw [beq_eq_false_iff_ne]; exact h]
    rfl
noncomputable def I64 : (R : Type) → List DV → (List DV → Option R) → Option R := fun _ ds k => match ds with
  | [.lst .u8 1 e] => bif okE e then k [.v (.one (.ints .u8 32 (decB e))), .v (.one (.int .i64 (decE e)))] else none
  | _ => none
theorem c64 : Contract Try.prog 64 { sig := S64, impl := I64 } := by
  refine Contract.refine fun R ds k r h => ⟨_, f64_contract 0 GJ_ok, ?_⟩
  unfold I64 at h
  split at h
  · rename_i e
    rcases hc : okE e with _ | _
    · rw [hc] at h; cases h
    · rw [hc, cond_true] at h
      rw [f64_raw_eq, f64_num e hc]; exact h
  · cases h
noncomputable def I65 : (R : Type) → List DV → (List DV → Option R) → Option R := fun _ ds k => match ds with
  | [.v (.one (.int .i64 x))] => k [.v (.one (.int .i64 x))]
  | _ => none
theorem c65 : Contract Try.prog 65 { sig := S65, impl := I65 } := by
  refine Contract.refine fun R ds k r h => ⟨_, f65_contract 0 GJ_ok, ?_⟩
  unfold I65 at h
  split at h
  · rw [f65_raw_eq]; exact h
  · cases h
/-- the limbs of a number, as something that no reckoning looks into -/
noncomputable def limS : Nat → List Int := (stk limN).1
theorem limS_def (v : Nat) : limS v = limN v := congrFun (stk limN).2 v
noncomputable def I13s : (R : Type) → List DV → (List DV → Option R) → Option R := fun _ ds k => match ds with
  | [.v (.one (.ints .u8 32 x))] => bif okB x then k [.v (.one (.ints .u64 5 (limS (vB x))))] else none
  | _ => none
theorem c13s : Contract Try.prog 13 { sig := S13, impl := I13s } := by
  refine Contract.refine fun R ds k r h => ⟨_, c13, ?_⟩
  unfold I13s at h
  split at h
  · rw [limS_def] at h; exact h
  · cases h
noncomputable def GM' : Ctx := (13, { sig := S13, impl := I13s }) :: (63, { sig := S63, impl := I63 }) :: (64, { sig := S64, impl := I64 }) :: (65, { sig := S65, impl := I65 }) :: GJ
theorem GM_ok' : CtxOk Try.prog GM' := ctxOk_cons ok13 rfl c13s (ctxOk_cons ok63 rfl c63 (ctxOk_cons ok64 rfl c64 (ctxOk_cons ok65 rfl c65 GJ_ok)))
noncomputable def GM : Ctx := (999999, noFI) :: GM'
theorem GM_ok : CtxOk Try.prog GM := ctxOk_prune GM_ok'
def startB (n : Nat) (x y z : List Int) : AS :=
  { n := n, lo := 0, tmps := [(0, .s (.one (.ints .u8 32 x))), (1, .s (.one (.ints .u64 5 y))), (2, .s (.one (.own 2)))], items := [(2, .view .u8 1 z)] }
end Go.Proofs.Ytcgolglcjfknpaa

/- What rime/rimelaw01.FieldBack comes to. MADE BY PROGRAM (wip/tools/mkfn.py, EngGen.lean). -/
namespace Go.Proofs.Ytcgolglcjfknpaa
open Go Go.Eng
set_option maxRecDepth 100000
set_option linter.unusedVariables false

noncomputable def f12_raw {R : Type} (N : Nat) (x : List Int) (y : List Int) (z : List Int) (k : List DV → Option R) : Option R :=
 bif okB x then
 bif Decidable.decide ((limS (vB x)).getD (mulE (Int.toNat 0) 1) 0 ≥ 2251799813685248) then k [DV.v (SV.one (At.bool Bool.false))]
 else
 let v0 : Int := IntKind.i64.wrap (0 + 1);
 bif Decidable.decide ((limS (vB x)).getD (mulE v0.toNat 1) 0 ≥ 2251799813685248) then k [DV.v (SV.one (At.bool Bool.false))]
 else
 let v1 : Int := IntKind.i64.wrap (v0 + 1);
 bif Decidable.decide ((limS (vB x)).getD (mulE v1.toNat 1) 0 ≥ 2251799813685248) then k [DV.v (SV.one (At.bool Bool.false))]
 else
 let v2 : Int := IntKind.i64.wrap (v1 + 1);
 bif Decidable.decide ((limS (vB x)).getD (mulE v2.toNat 1) 0 ≥ 2251799813685248) then k [DV.v (SV.one (At.bool Bool.false))]
 else
 let v3 : Int := IntKind.i64.wrap (v2 + 1);
 bif Decidable.decide ((limS (vB x)).getD (mulE v3.toNat 1) 0 ≥ 2251799813685248) then k [DV.v (SV.one (At.bool Bool.false))]
 else
 bif okE z then
 let v4 : List Int := Go.Eng.sub (feN (redN z)) (plusO Off.z 1 Option.none) (mulE (Go.Eng.subN (hiNat Option.none 32) Option.none) 1);
 bif okE v4 then
 let v5 : List Int := Go.Eng.sub x (plusO Off.z 1 Option.none) (mulE (Go.Eng.subN (hiNat Option.none 32) Option.none) 1);
 bif okE v5 then
 bif okW (limS (vB x)) then
 bif okB (feN (numW (limS (vB x)) % p25519)) && okB x then
 bif Decidable.decide (vB (feN (numW (limS (vB x)) % p25519)) = vB x) then
 bif okW y then
 bif okB (feN (numW y % p25519)) then
 bif okW (limS (vB (feN (numW y % p25519)))) then
 bif okW y then
 let v6 : Bool := bif Bool.true then Decidable.decide (feN (numW (limS (vB (feN (numW y % p25519)))) % p25519) = feN (numW y % p25519)) else Bool.false;
 bif v6 then
 let v7 : Bool := bif Bool.true then decE v4 == 0 else Bool.false;
 bif v7 then
 let v8 : Bool := bif Bool.true then Decidable.decide (decB v4 = feN (redN z)) else Bool.false;
 bif v8 then
 bif okB x then
 let v9 : Bool := bif Bool.true then (decE v5 == 0) == Decidable.decide (numB x < p25519) else Bool.false;
 bif v9 then
 bif decE v5 != 0 then
 bif okB x then
 bif okE v5 then
 let v10 : Bool := bif Bool.true then Decidable.decide (numB x < p25519) == Decidable.decide (feN (redN v5) = x) else Bool.false;
 k [DV.v (SV.one (At.bool v10))]
 else Option.none
 else Option.none
 else
 let v11 : Bool := bif Bool.false then Bool.true else Decidable.decide (decB v5 = x);
 let v12 : Bool := bif Bool.true then v11 else Bool.false;
 bif v12 then
 bif okB x then
 bif okE v5 then
 let v13 : Bool := bif Bool.true then Decidable.decide (numB x < p25519) == Decidable.decide (feN (redN v5) = x) else Bool.false;
 k [DV.v (SV.one (At.bool v13))]
 else Option.none
 else Option.none
 else Option.none
 else Option.none
 else Option.none
 else Option.none
 else Option.none
 else Option.none
 else Option.none
 else Option.none
 else Option.none
 else Option.none
 else Option.none
 else Option.none
 else Option.none
 else Option.none
 else Option.none
 else Option.none
else Option.none


noncomputable def E12 (N : Nat) : Env := { Θ := Th, Γ := GM, K := K12, ν := N12, fuel := 60, lp := [] }


theorem f12_loops (N : Nat) (hΓ : CtxOk Try.prog GM) : LoopsOk Try.prog (E12 N).lp B12 := loopsOk_of (l := [(0, B12_0)]) (by kernel_rfl) (allOk_skip rfl trivial)
theorem f12_raw_eq {R : Type} (N : Nat) (x : List Int) (y : List Int) (z : List Int) (k : List DV → Option R) : exec (E12 N) B12 (startB 88 x y z) (retK Th { ps := [], rs := [.val] } [] R12 k) = f12_raw N x y z k := by kernel_rfl
end Go.Proofs.Ytcgolglcjfknpaa

/- FieldBack: the law's run comes to true. -/
namespace Go.Proofs.Ytcgolglcjfknpaa
open Go Go.Eng
set_option maxRecDepth 100000

theorem limS_nats (v : Nat) : limS v = nats (digs 2251799813685248 5 v) := by rw [limS_def]; rfl
theorem limS_lt (v i : Nat) : decide ((limS v).getD i 0 ≥ 2251799813685248) = false := by
  rw [limS_nats, nats_getD]
  refine decide_eq_false ?_
  have : (digs 2251799813685248 5 v).getD i 0 < 2251799813685248 := by
    rw [List.getD_eq_getElem?_getD]
    cases h : (digs 2251799813685248 5 v)[i]? with
    | none => decide
    | some a => exact digs_lt (by decide) a (List.mem_of_getElem? h)
  omega
theorem okW_nats {l : List Nat} (hl : l.length = 5) (h : ∀ b ∈ l, b < 18446744073709551616) : okW (nats l) = true := by
  unfold okW
  rw [nats_length, decide_eq_true hl, Bool.true_and, List.all_eq_true]
  intro b hb
  unfold nats at hb
  obtain ⟨n, hn, rfl⟩ := List.mem_map.mp hb
  have := h n hn
  rw [Bool.and_eq_true]
  exact ⟨decide_eq_true (Int.natCast_nonneg n), decide_eq_true (Int.ofNat_lt.mpr this)⟩
theorem okW_limS (v : Nat) : okW (limS v) = true := by
  rw [limS_nats]
  refine okW_nats (digs_length _ _ _) fun b hb => ?_
  have := digs_lt (by decide) b hb
  omega
theorem numW_limS {v : Nat} (h : v < p25519) : numW (limS v) = v := by
  unfold numW
  rw [limS_nats, nats_toNat, digs_val, Nat.mod_eq_of_lt (Nat.lt_trans h (by decide))]
theorem okB_len {x : List Int} (h : okB x = true) : x.length = 32 := by
  obtain ⟨l, rfl, hl, _⟩ := okB_of h
  rw [nats_length]; exact hl
theorem sub32 {x : List Int} (h : okB x = true) : Go.Eng.sub x (plusO Off.z 1 Option.none) (mulE (Go.Eng.subN (hiNat Option.none 32) Option.none) 1) = x := by
  show x.take 32 = x
  rw [List.take_of_length_le (Nat.le_of_eq (okB_len h))]
theorem okE_okB {x : List Int} (h : okB x = true) : okE x = true := by
  have hl := okB_len h
  unfold okB at h
  rw [Bool.and_eq_true] at h
  unfold okE
  rw [h.2, decide_eq_true (by omega)]; rfl
theorem canon_iff {x : List Int} (h : okB x = true) : decide (feN (vB x) = x) = decide (numB x < p25519) := by
  refine decide_eq_decide.mpr ⟨fun e => ?_, fun e => ?_⟩
  · have := numB_lt (v := vB x) (Nat.lt_trans (vB_lt x) p_lt)
    rw [e] at this
    rw [this]; exact vB_lt x
  · rw [vB_def, Nat.mod_eq_of_lt e, feN_numB h]
theorem decE_fe {v : Nat} (h : v < p25519) : decE (feN v) = 0 := by
  rw [decE_def, okB_len (okB_feN v), numB_lt (Nat.lt_trans h p_lt), decide_eq_true h]; rfl
theorem decB_fe {v : Nat} (h : v < p25519) : decB (feN v) = feN v := by
  rw [decB_def, okB_len (okB_feN v), numB_lt (Nat.lt_trans h p_lt), decide_eq_true h]; rfl

theorem f12_true (N : Nat) {x y z : List Int} (hx : okB x = true) (hy : okW y = true) (hz : okE z = true) : f12_raw N x y z some = some [.v (.one (.bool true))] := by
  unfold f12_raw
  dsimp only
  have hr := redN_lt hz
  have hm : numW y % p25519 < p25519 := Nat.mod_lt _ (by decide)
  simp only [hx, hy, hz, limS_lt, cond_true, cond_false, sub32 hx, sub32 (okB_feN (redN z)), okE_okB hx, okE_okB (okB_feN (redN z)), okW_limS, okB_feN, Bool.and_self, numW_limS (vB_lt x), Nat.mod_eq_of_lt (vB_lt x), vB_feN (vB_lt x), decide_true, vB_feN hm, numW_limS hm, Nat.mod_mod, decE_fe hr, decB_fe hr, beq_self_eq_true, redN_32 hx, canon_iff hx]
  rw [decE_def, decB_def, okB_len hx, show ((32 : Nat) == 32) = true from rfl, cond_true, Bool.true_and]
  cases decide (numB x < p25519)
  · rfl
  · rw [cond_true, cond_true, decide_eq_true rfl]; rfl
end Go.Proofs.Ytcgolglcjfknpaa

/- The document's Split and Join: bit by bit. -/
namespace Go.Proofs.Ytcgolglcjfknpaa
open Go Go.Eng
set_option maxRecDepth 100000
set_option linter.unusedVariables false

theorem dig_lt {w m n i : Nat} (hw : 0 < w) (hi : i < w * m) (hn : n < 2 ^ i) : (digs (2 ^ w) m n).getD (i / w) 0 < 2 ^ (i % w) := by
  rw [digs_getD _ _ _ _ (Nat.div_lt_of_lt_mul hi)]
  have e : (2 : Nat) ^ i = (2 ^ w) ^ (i / w) * 2 ^ (i % w) := by
    rw [← Nat.pow_mul, ← Nat.pow_add, Nat.div_add_mod]
  rw [e] at hn
  exact Nat.lt_of_le_of_lt (Nat.mod_le _ _) (Nat.div_lt_of_lt_mul hn)
theorem set_same {l : List Nat} {i : Nat} : l.set i (l.getD i 0) = l := by
  by_cases h : i < l.length
  · rw [List.getD_eq_getElem?_getD, List.getElem?_eq_getElem h, Option.getD_some]
    exact List.set_getElem_self h
  · exact List.set_eq_of_length_le (by omega)
theorem two51 : (2251799813685248 : Nat) = 2 ^ 51 := by decide
/-- one bit more, whatever it is -/
theorem bit_step {w m n i b d : Nat} (hw : 0 < w) (hi : i < w * m) (hn : n < 2 ^ i) (hb : b < 2) (hd : d = (digs (2 ^ w) m n).getD (i / w) 0) :
    (digs (2 ^ w) m n).set (i / w) (d ||| b * 2 ^ (i % w)) = digs (2 ^ w) m (n + b * 2 ^ i) := by
  subst hd
  have hl := dig_lt hw hi hn
  rcases (show b = 0 ∨ b = 1 by omega) with rfl | rfl
  · rw [Nat.zero_mul, Nat.or_zero, Nat.zero_mul, Nat.add_zero, set_same]
  · rw [Nat.one_mul, Nat.one_mul, digs_set hw m n i hn hi]
    have := or_addN' (a := 1) hl
    rw [Nat.one_mul] at this
    rw [this]

theorem bitv {n i : Nat} : n / 2 ^ i % 2 < 2 := Nat.mod_lt _ (by decide)

/-! ### Split -/
theorem f14_in {R : Type} (N : Nat) (k1 : Bool → Int → List Int → List Int → List Int → Option R) (z : List Int) (v : Nat) :
    ∀ j i : Nat, i + j = 255 → ∀ fuel, j < fuel → f14_0_lp N k1 fuel (i : Int) z (nats (digs 256 32 v)) (nats (digs (2 ^ 51) 5 (v % 2 ^ i))) = k1 false 255 z (nats (digs 256 32 v)) (nats (digs (2 ^ 51) 5 (v % 2 ^ 255))) := by
  intro j
  induction j with
  | zero =>
    intro i hi fuel hf
    obtain ⟨f, rfl⟩ : ∃ f, fuel = f + 1 := ⟨fuel - 1, by omega⟩
    have : i = 255 := by omega
    subst this
    rfl
  | succ j ih =>
    intro i hi fuel hf
    obtain ⟨f, rfl⟩ : ∃ f, fuel = f + 1 := ⟨fuel - 1, by omega⟩
    show f14_0_st N (f14_0_lp N k1 f) k1 _ _ _ _ = _
    unfold f14_0_st
    rw [show ((i : Int).tdiv 8) = ((i / 8 : Nat) : Int) from rfl, show ((i : Int).tmod 8) = ((i % 8 : Nat) : Int) from rfl, show ((i : Int).tdiv 51) = ((i / 51 : Nat) : Int) from rfl, show ((i : Int).tmod 51) = ((i % 51 : Nat) : Int) from rfl]
    rw [wrapI (a := ((i / 8 : Nat) : Int)) (by omega) (by omega), wrapI (a := ((i / 51 : Nat) : Int)) (by omega) (by omega), w64 (n := i % 8) (by omega), w64 (n := i % 51) (by omega), wrapI (a := (i : Int) + 1) (by omega) (by omega)]
    dsimp only
    rw [decide_eq_true (show (i : Int) < 255 by omega), decide_eq_true (show (0 : Int) ≤ ((i / 8 : Nat) : Int) by omega), decide_eq_true (show ((i / 8 : Nat) : Int) < 32 by omega), decide_eq_true (show (0 : Int) ≤ ((i % 8 : Nat) : Int) by omega), decide_eq_true (show (0 : Int) ≤ ((i / 51 : Nat) : Int) by omega), decide_eq_true (show ((i / 51 : Nat) : Int) < 5 by omega), decide_eq_true (show (0 : Int) ≤ ((i % 51 : Nat) : Int) by omega)]
    simp only [Bool.and_self, cond_true]
    rw [show mulE (Int.toNat ((i / 8 : Nat) : Int)) 1 = i / 8 from rfl, show mulE (Int.toNat ((i / 51 : Nat) : Int)) 1 = i / 51 from rfl, nats_getD, nats_getD]
    have hbyte : (digs 256 32 v).getD (i / 8) 0 < 256 := nats_digs_bound (by decide) _
    rw [shrN (k := .u8) (m := i % 8) (show i % 8 ≤ 8 by omega)]
    have hq : (digs 256 32 v).getD (i / 8) 0 / 2 ^ (i % 8) < 256 := Nat.lt_of_le_of_lt (Nat.div_le_self _ _) hbyte
    rw [w64 (by omega), show andI .u64 (((digs 256 32 v).getD (i / 8) 0 / 2 ^ (i % 8) : Nat) : Int) 1 = (((digs 256 32 v).getD (i / 8) 0 / 2 ^ (i % 8) % 2 : Nat) : Int) from maskN (k := .u64) (j := 1) rfl (show _ < 18446744073709551616 by omega) (by decide)]
    rw [show (digs 256 32 v).getD (i / 8) 0 / 2 ^ (i % 8) % 2 = v / 2 ^ i % 2 from digs_bit (w := 8) (m := 32) (by decide) (by omega)]
    rw [shlN (k := .u64) rfl (m := i % 51) (show i % 51 ≤ 64 by omega)]
    have hp : 2 ^ (i % 51) ≤ 2 ^ 50 := Nat.pow_le_pow_right (by decide) (by omega)
    have hlt : v / 2 ^ i % 2 * 2 ^ (i % 51) ≤ 2 ^ 50 := by
      rcases Nat.mod_two_eq_zero_or_one (v / 2 ^ i) with h | h <;> rw [h] <;> omega
    rw [Nat.mod_eq_of_lt (show v / 2 ^ i % 2 * 2 ^ (i % 51) < 2 ^ IntKind.u64.bits from Nat.lt_of_le_of_lt hlt (by decide))]
    have hd : (digs (2 ^ 51) 5 (v % 2 ^ i)).getD (i / 51) 0 < 2 ^ 51 := nats_digs_bound (by decide) _
    rw [orN (k := .u64) rfl (Nat.lt_trans hd (by decide)) (Nat.lt_of_le_of_lt hlt (by decide)), nats_set]
    rw [bit_step (w := 51) (m := 5) (by decide) (by omega) (Nat.mod_lt _ (Nat.two_pow_pos i)) bitv rfl, ← mod_two_pow_succ]
    exact ih (i + 1) (by omega) f (by omega)
noncomputable def I14 : (R : Type) → List DV → (List DV → Option R) → Option R := fun _ ds k => match ds with
  | [.v (.one (.ints .u8 32 x))] => bif okB x then k [.v (.one (.ints .u64 5 (limS (vB x))))] else none
  | _ => none
theorem c14 : Contract Try.prog 14 { sig := S14, impl := I14 } := by
  refine Contract.refine fun R ds k r h => ⟨_, f14_contract 256 HF_ok, ?_⟩
  unfold I14 at h
  split at h
  · rename_i x
    rcases hc : okB x with _ | _
    · rw [hc] at h; cases h
    · rw [hc, cond_true] at h
      rw [f14_raw_eq]
      unfold f14_raw
      rw [hc, okD_refN, cond_true, cond_true, numD_ref (vB_lt x), feN_def, show List.replicate 5 (0 : Int) = nats (digs (2 ^ 51) 5 (vB x % 2 ^ 0)) by rw [Nat.pow_zero, Nat.mod_one]; decide]
      refine Eq.trans (f14_in 256 _ _ (vB x) 255 0 rfl 256 (by decide)) ?_
      rw [limS_nats, two51] at h
      rw [Nat.mod_eq_of_lt (Nat.lt_trans (vB_lt x) (by decide))]
      exact h
  · cases h

/-! ### Join -/
theorem f16_zero {R : Type} (N : Nat) (k1 : Bool → Int → Int → List Int → List Int → List Int → List Int → Option R) (a : Int) (x y z : List Int) :
    ∀ (T : List Nat) (j : Nat), j + T.length = 40 → ∀ fuel, T.length < fuel → f16_2_lp N k1 fuel a (j : Int) x y z (nats (List.replicate j 0 ++ T)) = k1 false a 40 x y z (nats (List.replicate 40 0)) := by
  intro T
  induction T with
  | nil =>
    intro j hj fuel hf
    obtain ⟨f, rfl⟩ : ∃ f, fuel = f + 1 := ⟨fuel - 1, by omega⟩
    have : j = 40 := by simpa using hj
    subst this
    rfl
  | cons t T ih =>
    intro j hj fuel hf
    obtain ⟨f, rfl⟩ : ∃ f, fuel = f + 1 := ⟨fuel - 1, by omega⟩
    rw [List.length_cons] at hj hf
    show f16_2_st N (f16_2_lp N k1 f) k1 _ _ _ _ _ _ = _
    unfold f16_2_st
    rw [show nI (rowLen 1 (nats (List.replicate j 0 ++ t :: T))) = 40 from by show (((nats (List.replicate j 0 ++ t :: T)).length : Nat) : Int) = _; rw [nats_length, List.length_append, List.length_replicate, List.length_cons]; omega]
    rw [decide_eq_true (show (j : Int) < 40 by omega), decide_eq_true (show (0 : Int) ≤ (j : Int) by omega), cond_true, Bool.and_self, cond_true, wrapI (by omega) (by omega)]
    dsimp only
    rw [show mulE (Int.toNat (j : Int)) 1 = j from rfl, show (0 : Int) = ((0 : Nat) : Int) from rfl, nats_set, set_mid (List.length_replicate), app_cons, ← List.replicate_succ']
    exact ih (j + 1) (by omega) f (by omega)
theorem f16_bits {R : Type} (N : Nat) (k1 : Bool → Int → Int → List Int → List Int → List Int → List Int → Option R) (y z : List Int) {l : List Nat} (hl : ∀ a ∈ l, a < 18446744073709551616) {i : Nat} (hi : i < 5) :
    ∀ j k : Nat, k + j = 64 → ∀ fuel, j < fuel → f16_4_lp N k1 fuel (i : Int) (k : Int) (nats l) y z (nats (digs 256 40 (l.getD i 0 % 2 ^ k * 2 ^ (51 * i)))) = k1 false (i : Int) 64 (nats l) y z (nats (digs 256 40 (l.getD i 0 % 2 ^ 64 * 2 ^ (51 * i)))) := by
  intro j
  induction j with
  | zero =>
    intro k hk fuel hf
    obtain ⟨f, rfl⟩ : ∃ f, fuel = f + 1 := ⟨fuel - 1, by omega⟩
    have : k = 64 := by omega
    subst this
    rfl
  | succ j ih =>
    intro k hk fuel hf
    obtain ⟨f, rfl⟩ : ∃ f, fuel = f + 1 := ⟨fuel - 1, by omega⟩
    have hx : l.getD i 0 < 18446744073709551616 := getD_lt (by decide) hl i
    have hn := ih (k + 1) (by omega) f (by omega)
    rw [show ((k + 1 : Nat) : Int) = (k : Int) + 1 from rfl] at hn
    show f16_4_st N (f16_4_lp N k1 f) k1 _ _ _ _ _ _ = _
    unfold f16_4_st
    rw [show nI (rowLen 1 (nats (digs 256 40 (l.getD i 0 % 2 ^ k * 2 ^ (51 * i))))) = 40 from by show (((nats (digs 256 40 (l.getD i 0 % 2 ^ k * 2 ^ (51 * i)))).length : Nat) : Int) = _; rw [nats_length, digs_length]; rfl]
    rw [w64 (n := k) (by omega), wrapI (a := 51 * (i : Int)) (by omega) (by omega), show mulE (Int.toNat (i : Int)) 1 = i from rfl, nats_getD]
    dsimp only
    rw [wrapI (a := 51 * (i : Int) + (k : Int)) (by omega) (by omega), show 51 * (i : Int) + (k : Int) = ((51 * i + k : Nat) : Int) by omega]
    rw [show (((51 * i + k : Nat) : Int).tdiv 8) = (((51 * i + k) / 8 : Nat) : Int) from rfl, show (((51 * i + k : Nat) : Int).tmod 8) = (((51 * i + k) % 8 : Nat) : Int) from rfl]
    rw [wrapI (a := (((51 * i + k) / 8 : Nat) : Int)) (by omega) (by omega), w64 (n := (51 * i + k) % 8) (by omega), wrapI (a := (k : Int) + 1) (by omega) (by omega)]
    rw [decide_eq_true (show (k : Int) < 64 by omega), decide_eq_true (show (0 : Int) ≤ (i : Int) by omega), decide_eq_true (show (i : Int) < 5 by omega), decide_eq_true (show (0 : Int) ≤ (k : Int) by omega), decide_eq_true (show (0 : Int) ≤ (((51 * i + k) / 8 : Nat) : Int) by omega), decide_eq_true (show (((51 * i + k) / 8 : Nat) : Int) < 40 by omega), decide_eq_true (show (0 : Int) ≤ (((51 * i + k) % 8 : Nat) : Int) by omega)]
    simp only [Bool.and_self, cond_true]
    rw [shrN (k := .u64) (m := k) (show k ≤ 64 by omega), show andI .u64 ((l.getD i 0 / 2 ^ k : Nat) : Int) 1 = ((l.getD i 0 / 2 ^ k % 2 : Nat) : Int) from maskN (k := .u64) (j := 1) rfl (Nat.lt_of_le_of_lt (Nat.div_le_self _ _) hx) (by decide)]
    have hs := mod_two_pow_succ (l.getD i 0) k
    rcases hc : (((l.getD i 0 / 2 ^ k % 2 : Nat) : Int) == 1) with _ | _
    · have h0 : l.getD i 0 / 2 ^ k % 2 = 0 := by
        have h1 : ¬ l.getD i 0 / 2 ^ k % 2 = 1 := fun h => by rw [h] at hc; exact absurd hc (by decide)
        have := bitv (n := l.getD i 0) (i := k)
        omega
      rw [h0, Nat.zero_mul] at hs
      rw [hs, Nat.add_zero] at hn
      rw [cond_false]
      exact hn
    · have h1 : l.getD i 0 / 2 ^ k % 2 = 1 := by rw [beq_iff_eq] at hc; omega
      rw [h1] at hs
      rw [cond_true, show mulE (Int.toNat (((51 * i + k) / 8 : Nat) : Int)) 1 = (51 * i + k) / 8 from rfl, nats_getD]
      have hlow : l.getD i 0 % 2 ^ k * 2 ^ (51 * i) < 2 ^ (51 * i + k) := by
        rw [Nat.pow_add, Nat.mul_comm]
        exact Nat.mul_lt_mul_of_pos_left (Nat.mod_lt _ (Nat.two_pow_pos k)) (Nat.two_pow_pos _)
      have hb : 2 ^ ((51 * i + k) % 8) ≤ 2 ^ 7 := Nat.pow_le_pow_right (by decide) (by omega)
      rw [show shlI .u8 1 (((51 * i + k) % 8 : Nat) : Int) = ((1 * 2 ^ ((51 * i + k) % 8) % 2 ^ IntKind.u8.bits : Nat) : Int) from shlN (k := .u8) rfl (m := (51 * i + k) % 8) (show _ ≤ 8 by omega) 1]
      rw [Nat.mod_eq_of_lt (show 1 * 2 ^ ((51 * i + k) % 8) < 2 ^ IntKind.u8.bits from by rw [Nat.one_mul]; exact Nat.lt_of_le_of_lt hb (by decide))]
      have hd : (digs 256 40 (l.getD i 0 % 2 ^ k * 2 ^ (51 * i))).getD ((51 * i + k) / 8) 0 < 256 := nats_digs_bound (by decide) _
      rw [orN (k := .u8) rfl hd (by rw [Nat.one_mul]; exact Nat.lt_of_le_of_lt hb (by decide)), nats_set]
      rw [show (digs 256 40 (l.getD i 0 % 2 ^ k * 2 ^ (51 * i))).set ((51 * i + k) / 8) ((digs 256 40 (l.getD i 0 % 2 ^ k * 2 ^ (51 * i))).getD ((51 * i + k) / 8) 0 ||| 1 * 2 ^ ((51 * i + k) % 8)) = digs 256 40 (l.getD i 0 % 2 ^ k * 2 ^ (51 * i) + 1 * 2 ^ (51 * i + k)) from bit_step (w := 8) (m := 40) (by decide) (by omega) hlow (by decide) rfl]
      rw [show l.getD i 0 % 2 ^ k * 2 ^ (51 * i) + 1 * 2 ^ (51 * i + k) = l.getD i 0 % 2 ^ (k + 1) * 2 ^ (51 * i) by rw [hs, Nat.add_mul, Nat.one_mul, Nat.one_mul, Nat.pow_add, Nat.mul_comm (2 ^ k)]]
      exact hn
theorem take_valb (b : Nat) (l : List Nat) {i : Nat} (h : i < l.length) : valB b (l.take (i + 1)) = valB b (l.take i) + l.getD i 0 * b ^ i := by
  rw [List.take_add_one, List.getElem?_eq_getElem h, Option.toList_some, valB_append, List.length_take, Nat.min_eq_left (by omega), List.getD_eq_getElem?_getD, List.getElem?_eq_getElem h, Option.getD_some]
  simp only [valB, Nat.mul_zero, Nat.add_zero]
  rw [Nat.mul_comm]
theorem f16_out {R : Type} (N : Nat) (hN : 100 < N) (k1 : Bool → Int → List Int → List Int → List Int → List Int → Option R) (y : List Int) {l : List Nat} (hl : ∀ a ∈ l, a < 18446744073709551616) (h5 : l.length = 5) :
    ∀ j i : Nat, i + j = 5 → ∀ (L : List Nat), L.length = 40 → ∀ fuel, j < fuel → ∃ L' : List Nat, f16_0_lp N k1 fuel (i : Int) (nats l) y (feN (valB 2251799813685248 (l.take i) % p25519)) (nats L) = k1 false 5 (nats l) y (feN (valB 2251799813685248 (l.take 5) % p25519)) (nats L') := by
  intro j
  induction j with
  | zero =>
    intro i hi L hL fuel hf
    obtain ⟨f, rfl⟩ : ∃ f, fuel = f + 1 := ⟨fuel - 1, by omega⟩
    have : i = 5 := by omega
    subst this
    exact ⟨L, rfl⟩
  | succ j ih =>
    intro i hi L hL fuel hf
    obtain ⟨f, rfl⟩ : ∃ f, fuel = f + 1 := ⟨fuel - 1, by omega⟩
    have hx : l.getD i 0 < 18446744073709551616 := getD_lt (by decide) hl i
    obtain ⟨L', hL'⟩ := ih (i + 1) (by omega) (digs 256 40 (l.getD i 0 * 2 ^ (51 * i))) (digs_length _ _ _) f (by omega)
    refine ⟨L', ?_⟩
    rw [← hL']
    show f16_0_st N (f16_0_lp N k1 f) k1 _ _ _ _ _ = _
    unfold f16_0_st
    rw [decide_eq_true (show (i : Int) < 5 by omega), cond_true]
    refine Eq.trans (f16_zero N _ (i : Int) (nats l) y _ L 0 (by omega) N (by omega)) ?_
    rw [show nats (List.replicate 40 0) = nats (digs 256 40 (l.getD i 0 % 2 ^ 0 * 2 ^ (51 * i))) by rw [Nat.pow_zero, Nat.mod_one, Nat.zero_mul, digs_zero]]
    refine Eq.trans (f16_bits N _ y _ hl (i := i) (by omega) 64 0 rfl N (by omega)) ?_
    rw [Nat.mod_eq_of_lt (show l.getD i 0 < 2 ^ 64 from hx)]
    have hlt : l.getD i 0 * 2 ^ (51 * i) < 256 ^ 40 := by
      have h1 : 2 ^ (51 * i) ≤ 2 ^ 204 := Nat.pow_le_pow_right (by decide) (by omega)
      have h2 : l.getD i 0 * 2 ^ (51 * i) ≤ 2 ^ 64 * 2 ^ 204 := Nat.mul_le_mul (by omega) h1
      exact Nat.lt_of_le_of_lt h2 (by decide)
    have hok : okE (nats (digs 256 40 (l.getD i 0 * 2 ^ (51 * i)))) = true := by
      unfold okE
      rw [nats_length, digs_length, decide_eq_true (by decide), Bool.true_and, List.all_eq_true]
      intro b hb
      unfold nats at hb
      obtain ⟨n, hn, rfl⟩ := List.mem_map.mp hb
      have := digs_lt (by decide) n hn
      rw [Bool.and_eq_true]
      exact ⟨decide_eq_true (Int.natCast_nonneg n), decide_eq_true (Int.ofNat_lt.mpr this)⟩
    have hm : ∀ n : Nat, n % p25519 < p25519 := fun n => Nat.mod_lt _ (by decide)
    rw [hok, nats_length, digs_length, decide_eq_true (by decide), okB_feN, okB_feN, numB_nats, digs_val, Nat.mod_eq_of_lt hlt, vB_feN (hm _), vB_feN (hm _), addN_def, ← Nat.add_mod, wrapI (a := (i : Int) + 1) (by omega) (by omega)]
    rw [take_valb 2251799813685248 l (by omega), two51, ← Nat.pow_mul]
    rfl
noncomputable def I16 : (R : Type) → List DV → (List DV → Option R) → Option R := fun _ ds k => match ds with
  | [.v (.one (.ints .u64 5 x))] => bif okW x then k [.v (.one (.ints .u8 32 (feN (numW x % p25519))))] else none
  | _ => none
theorem c16 : Contract Try.prog 16 { sig := S16, impl := I16 } := by
  refine Contract.refine fun R ds k r h => ⟨_, f16_contract 101 HF_ok, ?_⟩
  unfold I16 at h
  split at h
  · rename_i x
    rcases hc : okW x with _ | _
    · rw [hc] at h; cases h
    · rw [hc, cond_true] at h
      rw [f16_raw_eq]
      obtain ⟨a0, a1, a2, a3, a4, rfl, h0, h1, h2, h3, h4⟩ := okW_of hc
      unfold f16_raw
      rw [show List.replicate 32 (0 : Int) = feN (valB 2251799813685248 (List.take 0 [a0, a1, a2, a3, a4]) % p25519) from zero_bytes, show zerosOf (mulE (Int.toNat 40) 1) = nats (List.replicate 40 0) by decide]
      have hb : ∀ a ∈ [a0, a1, a2, a3, a4], a < 18446744073709551616 := by
        intro a ha
        simp only [List.mem_cons, List.not_mem_nil, or_false] at ha
        rcases ha with rfl | rfl | rfl | rfl | rfl <;> assumption
      obtain ⟨L', hL'⟩ := f16_out 101 (by decide) (fun w0_1 w0_2 w0_3 w0_4 w0_5 w0_6 => k [DV.v (SV.one (At.ints IntKind.u8 32 w0_5))]) (feN (valB 2251799813685248 (List.take 0 [a0, a1, a2, a3, a4]) % p25519)) hb rfl 5 0 rfl (List.replicate 40 0) rfl 101 (by decide)
      refine Eq.trans hL' ?_
      rw [← h]
      unfold numW
      rw [nats_toNat]
      rfl
  · cases h
end Go.Proofs.Ytcgolglcjfknpaa

/- What rime/rimeref01.Square comes to. MADE BY PROGRAM (wip/tools/mkfn.py, EngGen.lean). -/
namespace Go.Proofs.Ytcgolglcjfknpaa
open Go Go.Eng
set_option maxRecDepth 100000
set_option linter.unusedVariables false

noncomputable def f51_raw {R : Type} (N : Nat) (x : List Int) (k : List DV → Option R) : Option R :=
 bif okB x && okB x then k [DV.v (SV.one (At.ints IntKind.u8 32 (feN (mulN (vB x) (vB x)))))] else Option.none


noncomputable def E51 (N : Nat) : Env := { Θ := Th, Γ := HF, K := K51, ν := N51, fuel := 60, lp := [] }


theorem f51_contract (N : Nat) (hΓ : CtxOk Try.prog HF) : Contract Try.prog 51 { sig := S51, impl := fun _ ds k => call (E51 N) S51 6 B51 R51 ds k } :=
  call_contract (E := E51 N) thOk hΓ mixed ok51.look ok51.body ok51.n ok51.rv ok51.name rfl (by decide) (loopsOk_of (l := []) (by kernel_rfl) trivial)
theorem f51_raw_eq {R : Type} (N : Nat) (x : List Int) (k : List DV → Option R) : call (E51 N) S51 6 B51 R51 [.v (.one (.ints .u8 32 x))] k = f51_raw N x k := by kernel_rfl
end Go.Proofs.Ytcgolglcjfknpaa

/- What rime/rimeref01.Double comes to. MADE BY PROGRAM (wip/tools/mkfn.py, EngGen.lean). -/
namespace Go.Proofs.Ytcgolglcjfknpaa
open Go Go.Eng
set_option maxRecDepth 100000
set_option linter.unusedVariables false

noncomputable def f49_raw {R : Type} (N : Nat) (x : List Int) (k : List DV → Option R) : Option R :=
 bif okB x && okB x then k [DV.v (SV.one (At.ints IntKind.u8 32 (feN (addN (vB x) (vB x)))))] else Option.none


noncomputable def E49 (N : Nat) : Env := { Θ := Th, Γ := HF, K := K49, ν := N49, fuel := 60, lp := [] }


theorem f49_contract (N : Nat) (hΓ : CtxOk Try.prog HF) : Contract Try.prog 49 { sig := S49, impl := fun _ ds k => call (E49 N) S49 6 B49 R49 ds k } :=
  call_contract (E := E49 N) thOk hΓ mixed ok49.look ok49.body ok49.n ok49.rv ok49.name rfl (by decide) (loopsOk_of (l := []) (by kernel_rfl) trivial)
theorem f49_raw_eq {R : Type} (N : Nat) (x : List Int) (k : List DV → Option R) : call (E49 N) S49 6 B49 R49 [.v (.one (.ints .u8 32 x))] k = f49_raw N x k := by kernel_rfl
end Go.Proofs.Ytcgolglcjfknpaa

/- What rime/rimeref01.Abs comes to. MADE BY PROGRAM (wip/tools/mkfn.py, EngGen.lean). -/
namespace Go.Proofs.Ytcgolglcjfknpaa
open Go Go.Eng
set_option maxRecDepth 100000
set_option linter.unusedVariables false

noncomputable def f33_raw {R : Type} (N : Nat) (x : List Int) (k : List DV → Option R) : Option R :=
 bif okB x then bif vB x % 2 == 1 then bif okB x then k [DV.v (SV.one (At.ints IntKind.u8 32 (feN (subN 0 (vB x)))))] else Option.none else bif okB x then bif okD (refN (vB x)) then k [DV.v (SV.one (At.ints IntKind.u8 32 (feN (numD (refN (vB x))))))] else Option.none else Option.none else Option.none


noncomputable def E33 (N : Nat) : Env := { Θ := Th, Γ := HF, K := K33, ν := N33, fuel := 60, lp := [] }


theorem f33_contract (N : Nat) (hΓ : CtxOk Try.prog HF) : Contract Try.prog 33 { sig := S33, impl := fun _ ds k => call (E33 N) S33 10 B33 R33 ds k } :=
  call_contract (E := E33 N) thOk hΓ mixed ok33.look ok33.body ok33.n ok33.rv ok33.name rfl (by decide) (loopsOk_of (l := []) (by kernel_rfl) trivial)
theorem f33_raw_eq {R : Type} (N : Nat) (x : List Int) (k : List DV → Option R) : call (E33 N) S33 10 B33 R33 [.v (.one (.ints .u8 32 x))] k = f33_raw N x k := by kernel_rfl
end Go.Proofs.Ytcgolglcjfknpaa

/- What rime/rimeref01.D comes to. MADE BY PROGRAM (wip/tools/mkfn.py, EngGen.lean). -/
namespace Go.Proofs.Ytcgolglcjfknpaa
open Go Go.Eng
set_option maxRecDepth 100000
set_option linter.unusedVariables false

noncomputable def f38_raw {R : Type} (N : Nat)  (k : List DV → Option R) : Option R :=
 bif okB (feN (Int.toNat 121665)) then bif okB (feN (Int.toNat 121666)) then bif okB (feN (subN 0 (vB (feN (Int.toNat 121665))))) && okB (feN (pw (vB (feN (Int.toNat 121666))) pm2)) then k [DV.v (SV.one (At.ints IntKind.u8 32 (feN (mulN (vB (feN (subN 0 (vB (feN (Int.toNat 121665)))))) (vB (feN (pw (vB (feN (Int.toNat 121666))) pm2)))))))] else Option.none else Option.none else Option.none


noncomputable def E38 (N : Nat) : Env := { Θ := Th, Γ := HF, K := K38, ν := N38, fuel := 60, lp := [] }


theorem f38_contract (N : Nat) (hΓ : CtxOk Try.prog HF) : Contract Try.prog 38 { sig := S38, impl := fun _ ds k => call (E38 N) S38 6 B38 R38 ds k } :=
  call_contract (E := E38 N) thOk hΓ mixed ok38.look ok38.body ok38.n ok38.rv ok38.name rfl (by decide) (loopsOk_of (l := []) (by kernel_rfl) trivial)
theorem f38_raw_eq {R : Type} (N : Nat)  (k : List DV → Option R) : call (E38 N) S38 6 B38 R38 [] k = f38_raw N  k := by kernel_rfl
end Go.Proofs.Ytcgolglcjfknpaa

/- the document's functions, as numbers: Square, Double, Abs, D. -/
namespace Go.Proofs.Ytcgolglcjfknpaa
open Go Go.Eng
set_option maxRecDepth 100000
set_option linter.unusedSimpArgs false

theorem f51_num {R : Type} (x : List Int) (hx : (okB x) = true) (k : List DV → Option R) : f51_raw 0 x k = k [.v (.one (.ints .u8 32 (feN (mulN (vB x) (vB x)))))] := by
  unfold f51_raw
  try dsimp only
  simp only [hx, okD_refN, okB_feN, numD_ref (vB_lt _), Bool.and_self, cond_true]
noncomputable def I51 : (R : Type) → List DV → (List DV → Option R) → Option R := fun _ ds k => match ds with
  | [.v (.one (.ints .u8 32 x))] => bif okB x then k [.v (.one (.ints .u8 32 (feN (mulN (vB x) (vB x)))))] else none
  | _ => none
theorem c51 : Contract Try.prog 51 { sig := S51, impl := I51 } := by
  refine Contract.refine fun R ds k r h => ⟨_, f51_contract 0 HF_ok, ?_⟩
  unfold I51 at h
  split at h
  · rename_i x
    rcases hc : okB x with _ | _
    · rw [hc] at h; cases h
    · rw [hc, cond_true] at h
      rw [f51_raw_eq, f51_num x hc]; exact h
  · cases h

theorem f49_num {R : Type} (x : List Int) (hx : (okB x) = true) (k : List DV → Option R) : f49_raw 0 x k = k [.v (.one (.ints .u8 32 (feN (addN (vB x) (vB x)))))] := by
  unfold f49_raw
  try dsimp only
  simp only [hx, okD_refN, okB_feN, numD_ref (vB_lt _), Bool.and_self, cond_true]
noncomputable def I49 : (R : Type) → List DV → (List DV → Option R) → Option R := fun _ ds k => match ds with
  | [.v (.one (.ints .u8 32 x))] => bif okB x then k [.v (.one (.ints .u8 32 (feN (addN (vB x) (vB x)))))] else none
  | _ => none
theorem c49 : Contract Try.prog 49 { sig := S49, impl := I49 } := by
  refine Contract.refine fun R ds k r h => ⟨_, f49_contract 0 HF_ok, ?_⟩
  unfold I49 at h
  split at h
  · rename_i x
    rcases hc : okB x with _ | _
    · rw [hc] at h; cases h
    · rw [hc, cond_true] at h
      rw [f49_raw_eq, f49_num x hc]; exact h
  · cases h

theorem selA {R : Type} (c : Bool) (a b : Nat) (k : List DV → Option R) : (bif c then k [.v (.one (.ints .u8 32 (feN a)))] else k [.v (.one (.ints .u8 32 (feN b)))]) = k [.v (.one (.ints .u8 32 (feN (bif c then a else b))))] := by cases c <;> rfl

theorem f33_num {R : Type} (x : List Int) (hx : (okB x) = true) (k : List DV → Option R) : f33_raw 0 x k = k [.v (.one (.ints .u8 32 (feN (absN (vB x)))))] := by
  unfold f33_raw
  try dsimp only
  simp only [hx, okD_refN, okB_feN, numD_ref (vB_lt _), Bool.and_self, cond_true]
  rw [absN_def]
  exact selA _ _ _ k
noncomputable def I33 : (R : Type) → List DV → (List DV → Option R) → Option R := fun _ ds k => match ds with
  | [.v (.one (.ints .u8 32 x))] => bif okB x then k [.v (.one (.ints .u8 32 (feN (absN (vB x)))))] else none
  | _ => none
theorem c33 : Contract Try.prog 33 { sig := S33, impl := I33 } := by
  refine Contract.refine fun R ds k r h => ⟨_, f33_contract 0 HF_ok, ?_⟩
  unfold I33 at h
  split at h
  · rename_i x
    rcases hc : okB x with _ | _
    · rw [hc] at h; cases h
    · rw [hc, cond_true] at h
      rw [f33_raw_eq, f33_num x hc]; exact h
  · cases h

theorem f38_num {R : Type}   (k : List DV → Option R) : f38_raw 0  k = k [.v (.one (.ints .u8 32 (feN (dN))))] := by
  unfold f38_raw
  try dsimp only
  simp only [okB_feN, cond_true, Bool.and_self]
  rw [vB_feN (v := Int.toNat 121665) (by decide), vB_feN (v := Int.toNat 121666) (by decide), vB_feN (pw_lt _ _), vB_feN (subN_lt _ _)]
  rw [show mulN (subN 0 (Int.toNat 121665)) (pw (Int.toNat 121666) pm2) = dN by rw [subN_def, mulN_def, pw_pm]; decide +kernel]
noncomputable def I38 : (R : Type) → List DV → (List DV → Option R) → Option R := fun _ ds k => match ds with
  | [] => k [.v (.one (.ints .u8 32 (feN (dN))))]
  | _ => none
theorem c38 : Contract Try.prog 38 { sig := S38, impl := I38 } := by
  refine Contract.refine fun R ds k r h => ⟨_, f38_contract 0 HF_ok, ?_⟩
  unfold I38 at h
  split at h
  · rw [f38_raw_eq, f38_num]; exact h
  · cases h

noncomputable def HG : Ctx := (51, { sig := S51, impl := I51 }) :: (49, { sig := S49, impl := I49 }) :: (33, { sig := S33, impl := I33 }) :: (38, { sig := S38, impl := I38 }) :: HF
theorem HG_ok : CtxOk Try.prog HG := ctxOk_cons ok51 rfl c51 (ctxOk_cons ok49 rfl c49 (ctxOk_cons ok33 rfl c33 (ctxOk_cons ok38 rfl c38 HF_ok)))
end Go.Proofs.Ytcgolglcjfknpaa

/- What rime/rimeref01.SqrtM1 comes to. MADE BY PROGRAM (wip/tools/mkfn.py, EngGen.lean). -/
namespace Go.Proofs.Ytcgolglcjfknpaa
open Go Go.Eng
set_option maxRecDepth 100000
set_option linter.unusedVariables false

noncomputable def f40_raw {R : Type} (N : Nat)  (k : List DV → Option R) : Option R :=
 bif okB (feN (Int.toNat 2)) && okE exQuar then bif okB (feN (pw (vB (feN (Int.toNat 2))) (numB exQuar))) then k [DV.v (SV.one (At.ints IntKind.u8 32 (feN (absN (vB (feN (pw (vB (feN (Int.toNat 2))) (numB exQuar))))))))] else Option.none else Option.none


noncomputable def E40 (N : Nat) : Env := { Θ := Th, Γ := HG, K := K40, ν := N40, fuel := 0, lp := [] }


theorem f40_contract (N : Nat) (hΓ : CtxOk Try.prog HG) : Contract Try.prog 40 { sig := S40, impl := fun _ ds k => call (E40 N) S40 5 B40 R40 ds k } :=
  call_contract (E := E40 N) thOk hΓ mixed ok40.look ok40.body ok40.n ok40.rv ok40.name rfl (by decide) (loopsOk_of (l := []) (by kernel_rfl) trivial)
theorem f40_raw_eq {R : Type} (N : Nat)  (k : List DV → Option R) : call (E40 N) S40 5 B40 R40 [] k = f40_raw N  k := by kernel_rfl
end Go.Proofs.Ytcgolglcjfknpaa

/- the document's functions, as numbers: SqrtM1. -/
namespace Go.Proofs.Ytcgolglcjfknpaa
open Go Go.Eng
set_option maxRecDepth 100000
set_option linter.unusedSimpArgs false

theorem f40_num {R : Type}   (k : List DV → Option R) : f40_raw 0  k = k [.v (.one (.ints .u8 32 (feN (iN))))] := by
  unfold f40_raw
  simp only [okB_feN, okE_exQuar, num_exQuar, cond_true, Bool.and_self]
  rw [vB_feN (v := Int.toNat 2) (by decide), vB_feN (pw_lt _ _)]
  rw [show absN (pw (Int.toNat 2) 14474011154664524427946373126085988481658748083205070504932198000989141204987) = iN by rw [absN_def, subN_def, pw_pm]; decide +kernel]
noncomputable def I40 : (R : Type) → List DV → (List DV → Option R) → Option R := fun _ ds k => match ds with
  | [] => k [.v (.one (.ints .u8 32 (feN (iN))))]
  | _ => none
theorem c40 : Contract Try.prog 40 { sig := S40, impl := I40 } := by
  refine Contract.refine fun R ds k r h => ⟨_, f40_contract 0 HG_ok, ?_⟩
  unfold I40 at h
  split at h
  · rw [f40_raw_eq, f40_num]; exact h
  · cases h

noncomputable def HH : Ctx := (40, { sig := S40, impl := I40 }) :: HG
theorem HH_ok : CtxOk Try.prog HH := ctxOk_cons ok40 rfl c40 HG_ok
end Go.Proofs.Ytcgolglcjfknpaa

/- What rime/rimeref01.root comes to. MADE BY PROGRAM (wip/tools/mkfn.py, EngGen.lean). -/
namespace Go.Proofs.Ytcgolglcjfknpaa
open Go Go.Eng
set_option maxRecDepth 100000
set_option linter.unusedVariables false

noncomputable def f95_raw {R : Type} (N : Nat) (x : List Int) (k : List DV → Option R) : Option R :=
 bif okB x && okE exRoot then bif okB (feN (pw (vB x) (numB exRoot))) then bif okB x then bif okD (refN (vB x)) then bif !Decidable.decide (feN (mulN (vB (feN (pw (vB x) (numB exRoot)))) (vB (feN (pw (vB x) (numB exRoot))))) = feN (numD (refN (vB x)))) then bif okB (feN (pw (vB x) (numB exRoot))) && okB (feN iN) then bif okB (feN (mulN (vB (feN (pw (vB x) (numB exRoot)))) (vB (feN iN)))) then k [DV.v (SV.one (At.ints IntKind.u8 32 (feN (absN (vB (feN (mulN (vB (feN (pw (vB x) (numB exRoot)))) (vB (feN iN)))))))))] else Option.none else Option.none else bif okB (feN (pw (vB x) (numB exRoot))) then k [DV.v (SV.one (At.ints IntKind.u8 32 (feN (absN (vB (feN (pw (vB x) (numB exRoot))))))))] else Option.none else Option.none else Option.none else Option.none else Option.none


noncomputable def E95 (N : Nat) : Env := { Θ := Th, Γ := HH, K := K95, ν := N95, fuel := 0, lp := [] }


theorem f95_contract (N : Nat) (hΓ : CtxOk Try.prog HH) : Contract Try.prog 95 { sig := S95, impl := fun _ ds k => call (E95 N) S95 18 B95 R95 ds k } :=
  call_contract (E := E95 N) thOk hΓ mixed ok95.look ok95.body ok95.n ok95.rv ok95.name rfl (by decide) (loopsOk_of (l := []) (by kernel_rfl) trivial)
theorem f95_raw_eq {R : Type} (N : Nat) (x : List Int) (k : List DV → Option R) : call (E95 N) S95 18 B95 R95 [.v (.one (.ints .u8 32 x))] k = f95_raw N x k := by kernel_rfl
end Go.Proofs.Ytcgolglcjfknpaa

/- the document's root. -/
namespace Go.Proofs.Ytcgolglcjfknpaa
open Go Go.Eng
set_option maxRecDepth 100000
set_option linter.unusedSimpArgs false
noncomputable def rootS : Nat → Nat := (stk fun v => bif !decide (mulN (pw v 7237005577332262213973186563042994240829374041602535252466099000494570602494) (pw v 7237005577332262213973186563042994240829374041602535252466099000494570602494) = v) then absN (mulN (pw v 7237005577332262213973186563042994240829374041602535252466099000494570602494) iN) else absN (pw v 7237005577332262213973186563042994240829374041602535252466099000494570602494)).1
theorem rootS_def (v : Nat) : rootS v = bif !decide (mulN (pw v 7237005577332262213973186563042994240829374041602535252466099000494570602494) (pw v 7237005577332262213973186563042994240829374041602535252466099000494570602494) = v) then absN (mulN (pw v 7237005577332262213973186563042994240829374041602535252466099000494570602494) iN) else absN (pw v 7237005577332262213973186563042994240829374041602535252466099000494570602494) := congrFun (stk fun v => bif !decide (mulN (pw v 7237005577332262213973186563042994240829374041602535252466099000494570602494) (pw v 7237005577332262213973186563042994240829374041602535252466099000494570602494) = v) then absN (mulN (pw v 7237005577332262213973186563042994240829374041602535252466099000494570602494) iN) else absN (pw v 7237005577332262213973186563042994240829374041602535252466099000494570602494)).2 v
theorem rootS_lt (v : Nat) : rootS v < p25519 := by
  rw [rootS_def]; exact bif_lt _ (absN_lt (mulN_lt _ _)) (absN_lt (pw_lt _ _))
theorem rootS_even (v : Nat) : rootS v % 2 = 0 := by
  rw [rootS_def]
  cases decide (mulN (pw v 7237005577332262213973186563042994240829374041602535252466099000494570602494) (pw v 7237005577332262213973186563042994240829374041602535252466099000494570602494) = v)
  · exact absN_even (mulN_lt _ _)
  · exact absN_even (pw_lt _ _)
/-- of a square it is the root -/
theorem rootS_sq {w : Nat} (hw : w < p25519) (h : pw w ph = 1) : mulN (rootS w) (rootS w) = w := by
  rw [rootS_def]
  obtain ⟨e, he⟩ : ∃ e, e = 7237005577332262213973186563042994240829374041602535252466099000494570602494 := ⟨_, rfl⟩
  rw [← he]
  have hs : mulN (pw w e) (pw w e) = w ∨ mulN (pw w e) (pw w e) = mulN w (p25519 - 1) := by
    obtain ⟨q, hq⟩ : ∃ q, q = 14474011154664524427946373126085988481658748083205070504932198000989141204987 := ⟨_, rfl⟩
    have h1 : mulN (pw w e) (pw w e) = mulN w (pw w q) := by
      rw [mulN_def, mulN_def, pw_eq, pw_eq, ← Nat.mul_mod, ← Nat.pow_add, Nat.mul_mod_mod]
      rw [show e + e = q + 1 by rw [he, hq], Nat.pow_succ, Nat.mul_comm]
    rw [h1]
    have h2 : pw w q * pw w q % p25519 = 1 := by
      have h9 : q + q = ph := by rw [hq]; decide
      rw [← h, pw_eq, pw_eq, ← Nat.mul_mod, ← Nat.pow_add, h9]
    rcases sq_one prm_p (pw_lt _ _) h2 with h3 | h3
    · left; rw [h3, mulN_one hw]
    · right; rw [h3]
  by_cases h4 : mulN (pw w e) (pw w e) = w
  · rw [decide_eq_true h4]
    show mulN (absN (pw w e)) (absN (pw w e)) = w
    rw [absN_sq (pw_lt _ _), h4]
  · rw [decide_eq_false h4]
    show mulN (absN (mulN (pw w e) iN)) (absN (mulN (pw w e) iN)) = w
    rw [absN_sq (mulN_lt _ _)]
    rcases hs with h5 | h5
    · exact absurd h5 h4
    · have : mulN (mulN (pw w e) iN) (mulN (pw w e) iN) = mulN (mulN (pw w e) (pw w e)) (iN * iN % p25519) := by
        simp only [mulN_def, Nat.mod_mul_mod, Nat.mul_mod_mod]
        refine congrArg (· % p25519) ?_
        ac_rfl
      rw [this, i_sq, h5, mulN_assoc, show mulN (p25519 - 1) (p25519 - 1) = 1 by rw [mulN_def]; decide, mulN_one hw]
theorem even_root {a b : Nat} (ha : a < p25519) (hb : b < p25519) (ea : a % 2 = 0) (eb : b % 2 = 0) (h : mulN a a = mulN b b) : a = b := by
  rw [mulN_def, mulN_def] at h
  rcases sq_eq prm_p ha hb h with h | h
  · exact h
  · have : p25519 % 2 = 1 := by decide
    omega
theorem leg_i : legI iN = -1 := by
  refine leg_neg ?_
  rw [pw_pm]; decide +kernel
noncomputable def refQ (u v : Nat) : Nat := mulN u (pw v pm2)
theorem refQ_mul {u v : Nat} (hu : u < p25519) (hv : v < p25519) (h0 : v ≠ 0) : mulN (refQ u v) v = u := by
  unfold refQ
  rw [mulN_assoc, mulN_comm (pw v pm2) v, mulN_inv hv h0, mulN_one hu]
theorem leg_sq {v : Nat} (hv : v < p25519) (h0 : v ≠ 0) : legI (mulN v v) = 1 := by
  rw [leg_mul hv hv]
  rcases leg_cases hv with ⟨h, _⟩ | ⟨_, h⟩ | ⟨_, h⟩
  · exact absurd h h0
  · rw [h]; rfl
  · rw [h]; rfl
theorem leg_ratio {u v : Nat} (hu : u < p25519) (hv : v < p25519) (h0 : v ≠ 0) : legI (refQ u v) = legI (mulN u v) := by
  have h1 : mulN u v = mulN (refQ u v) (mulN v v) := by rw [← mulN_assoc, refQ_mul hu hv h0]
  rw [h1, leg_mul (show refQ u v < p25519 from mulN_lt _ _) (mulN_lt _ _), leg_sq hv h0, Int.mul_one]
theorem pw_of_leg {v : Nat} (hv : v < p25519) (h : legI v = 1) : pw v ph = 1 := by
  rcases leg_cases hv with ⟨_, h2⟩ | ⟨h1, _⟩ | ⟨_, h2⟩
  · rw [h2] at h; exact absurd h (by decide)
  · exact h1
  · rw [h2] at h; exact absurd h (by decide)
theorem mul_right_cancel {a b v : Nat} (ha : a < p25519) (hb : b < p25519) (hv : v < p25519) (h0 : v ≠ 0) (h : mulN a v = mulN b v) : a = b := by
  have : mulN (mulN a v) (pw v pm2) = mulN (mulN b v) (pw v pm2) := by rw [h]
  rwa [mulN_assoc, mulN_assoc, mulN_inv hv h0, mulN_one ha, mulN_one hb] at this
/-- the document's root of a ratio is the program's -/
theorem ref_rat {u v : Nat} (hu : u < p25519) (hv : v < p25519) (hu0 : u ≠ 0) (hv0 : v ≠ 0) :
    (legI (refQ u v) = 1 ∧ ratB u v = true ∧ rootS (refQ u v) = ratN u v) ∨ (legI (refQ u v) ≠ 1 ∧ ratB u v = false ∧ rootS (mulN (refQ u v) iN) = ratN u v) := by
  have hq : refQ u v < p25519 := mulN_lt _ _
  have hl := leg_ratio hu hv hv0
  rcases ratio hu hv hv0 with ⟨h1, h2, h3⟩ | ⟨h1, h2, h3⟩
  · left
    have h5 : legI (refQ u v) = 1 := by
      rcases leg_cases hq with ⟨h, _⟩ | ⟨_, h⟩ | ⟨_, h⟩
      · have := refQ_mul hu hv hv0
        rw [h, zero_mulN] at this
        exact absurd this.symm hu0
      · exact h
      · rw [← hl, h] at h3; exact absurd h3 (by decide)
    refine ⟨h5, h1, even_root (rootS_lt _) (ratN_lt v) (rootS_even _) (ratN_even v) ?_⟩
    rw [rootS_sq hq (pw_of_leg hq h5)]
    exact mul_right_cancel hq (mulN_lt _ _) hv hv0 (by rw [h2, refQ_mul hu hv hv0])
  · right
    have h5 : legI (refQ u v) = -1 := by rw [hl, h3]
    have h6 : mulN (refQ u v) iN < p25519 := mulN_lt _ _
    refine ⟨by rw [h5]; decide, h1, even_root (rootS_lt _) (ratN_lt v) (rootS_even _) (ratN_even v) ?_⟩
    rw [rootS_sq h6 (pw_of_leg h6 (by rw [leg_mul hq i_lt, h5, leg_i]; rfl))]
    refine mul_right_cancel h6 (mulN_lt _ _) hv hv0 ?_
    rw [h2, mulN_assoc, mulN_comm iN v, ← mulN_assoc, refQ_mul hu hv hv0, mulN_comm]

theorem f95_num {R : Type} (x : List Int) (hx : (okB x) = true) (k : List DV → Option R) : f95_raw 0 x k = k [.v (.one (.ints .u8 32 (feN (rootS (vB x)))))] := by
  unfold f95_raw
  simp only [hx, okD_refN, okB_feN, numD_ref (vB_lt _), vB_feN (pw_lt _ _), vB_feN (mulN_lt _ _), vB_feN i_lt, okE_exRoot, num_exRoot, Bool.and_self, cond_true]
  rw [dec_feN (mulN_lt _ _) (vB_lt _), rootS_def]
  exact selA _ _ _ k
noncomputable def I95 : (R : Type) → List DV → (List DV → Option R) → Option R := fun _ ds k => match ds with
  | [.v (.one (.ints .u8 32 x))] => bif okB x then k [.v (.one (.ints .u8 32 (feN (rootS (vB x)))))] else none
  | _ => none
theorem c95 : Contract Try.prog 95 { sig := S95, impl := I95 } := by
  refine Contract.refine fun R ds k r h => ⟨_, f95_contract 0 HH_ok, ?_⟩
  unfold I95 at h
  split at h
  · rename_i x
    rcases hc : okB x with _ | _
    · rw [hc] at h; cases h
    · rw [hc, cond_true] at h
      rw [f95_raw_eq, f95_num x hc]; exact h
  · cases h

noncomputable def HI : Ctx := (95, { sig := S95, impl := I95 }) :: HH
theorem HI_ok : CtxOk Try.prog HI := ctxOk_cons ok95 rfl c95 HH_ok
end Go.Proofs.Ytcgolglcjfknpaa

/- What rime/rimeref01.SqrtRatio comes to. MADE BY PROGRAM (wip/tools/mkfn.py, EngGen.lean). -/
namespace Go.Proofs.Ytcgolglcjfknpaa
open Go Go.Eng
set_option maxRecDepth 100000
set_option linter.unusedVariables false

noncomputable def f36_raw {R : Type} (N : Nat) (x : List Int) (y : List Int) (k : List DV → Option R) : Option R :=
 bif okB x then bif Decidable.decide (refN (vB x) = List.replicate 16 0) then k [DV.v (SV.one (At.ints IntKind.u8 32 (List.replicate 32 0))), DV.v (SV.one (At.bool Bool.true))] else bif okB y then bif Decidable.decide (refN (vB y) = List.replicate 16 0) then k [DV.v (SV.one (At.ints IntKind.u8 32 (List.replicate 32 0))), DV.v (SV.one (At.bool Bool.false))] else bif okB y then bif okB x && okB (feN (pw (vB y) pm2)) then bif okB (feN (mulN (vB x) (vB (feN (pw (vB y) pm2))))) then bif legI (vB (feN (mulN (vB x) (vB (feN (pw (vB y) pm2)))))) == 1 then bif okB (feN (mulN (vB x) (vB (feN (pw (vB y) pm2))))) then k [DV.v (SV.one (At.ints IntKind.u8 32 (feN (rootS (vB (feN (mulN (vB x) (vB (feN (pw (vB y) pm2)))))))))), DV.v (SV.one (At.bool Bool.true))] else Option.none else bif okB (feN (mulN (vB x) (vB (feN (pw (vB y) pm2))))) && okB (feN iN) then bif okB (feN (mulN (vB (feN (mulN (vB x) (vB (feN (pw (vB y) pm2)))))) (vB (feN iN)))) then k [DV.v (SV.one (At.ints IntKind.u8 32 (feN (rootS (vB (feN (mulN (vB (feN (mulN (vB x) (vB (feN (pw (vB y) pm2)))))) (vB (feN iN))))))))), DV.v (SV.one (At.bool Bool.false))] else Option.none else Option.none else Option.none else Option.none else Option.none else Option.none else Option.none


noncomputable def E36 (N : Nat) : Env := { Θ := Th, Γ := HI, K := K36, ν := N36, fuel := 0, lp := [] }


theorem f36_contract (N : Nat) (hΓ : CtxOk Try.prog HI) : Contract Try.prog 36 { sig := S36, impl := fun _ ds k => call (E36 N) S36 30 B36 R36 ds k } :=
  call_contract (E := E36 N) thOk hΓ mixed ok36.look ok36.body ok36.n ok36.rv ok36.name rfl (by decide) (loopsOk_of (l := []) (by kernel_rfl) trivial)
theorem f36_raw_eq {R : Type} (N : Nat) (x : List Int) (y : List Int) (k : List DV → Option R) : call (E36 N) S36 30 B36 R36 [.v (.one (.ints .u8 32 x)), .v (.one (.ints .u8 32 y))] k = f36_raw N x y k := by kernel_rfl
end Go.Proofs.Ytcgolglcjfknpaa

/- the document's root of a ratio. -/
namespace Go.Proofs.Ytcgolglcjfknpaa
open Go Go.Eng
set_option maxRecDepth 100000
set_option linter.unusedSimpArgs false

theorem f36_num {R : Type} (x : List Int) (y : List Int) (hx : (okB x) = true) (hy : (okB y) = true) (k : List DV → Option R) : f36_raw 0 x y k = k [.v (.one (.ints .u8 32 (feN (ratN (vB x) (vB y))))), .v (.one (.bool (ratB (vB x) (vB y))))] := by
  unfold f36_raw
  simp only [hx, hy, okD_refN, okB_feN, vB_feN (pw_lt _ _), vB_feN (mulN_lt _ _), vB_feN i_lt, Bool.and_self, cond_true]
  rw [ref_zero, ref_dec (vB_lt x) (by decide), ref_dec (vB_lt y) (by decide), zero_bytes]
  by_cases h0 : vB x = 0
  · rw [decide_eq_true h0, cond_true, h0]
    have hb : ratB 0 (vB y) = true := by
      have hc : chN 0 (vB y) = 0 := by rw [chN_eq, zero_mulN]
      rw [ratB_def, hc, decide_eq_true rfl, Bool.true_or]
    have hn : ratN 0 (vB y) = 0 := by
      have hr : rtN 0 (vB y) = 0 := by unfold rtN; rw [zero_mulN, zero_mulN]
      have hc : chN 0 (vB y) = 0 := by rw [chN_eq, zero_mulN]
      rw [ratN_def]; unfold ratR
      rw [hc, decide_eq_true rfl, cond_true, hr, absN_def]; decide
    rw [hb, hn]
  · rw [decide_eq_false h0, cond_false]
    by_cases h1 : vB y = 0
    · rw [decide_eq_true h1, cond_true, h1, ratN_v0, ratB_v0 (vB_lt x), decide_eq_false h0]
    · rw [decide_eq_false h1, cond_false]
      show (bif legI (refQ (vB x) (vB y)) == 1 then k [.v (.one (.ints .u8 32 (feN (rootS (refQ (vB x) (vB y)))))), .v (.one (.bool true))] else k [.v (.one (.ints .u8 32 (feN (rootS (mulN (refQ (vB x) (vB y)) iN))))), .v (.one (.bool false))]) = _
      rcases ref_rat (vB_lt x) (vB_lt y) h0 h1 with ⟨h2, h3, h4⟩ | ⟨h2, h3, h4⟩
      · rw [h2, h3, h4]; rfl
      · rw [show (legI (refQ (vB x) (vB y)) == 1) = false by rw [beq_eq_false_iff_ne]; exact h2, h3, h4]; rfl
noncomputable def I36 : (R : Type) → List DV → (List DV → Option R) → Option R := fun _ ds k => match ds with
  | [.v (.one (.ints .u8 32 x)), .v (.one (.ints .u8 32 y))] => bif okB x && okB y then k [.v (.one (.ints .u8 32 (feN (ratN (vB x) (vB y))))), .v (.one (.bool (ratB (vB x) (vB y))))] else none
  | _ => none
theorem c36 : Contract Try.prog 36 { sig := S36, impl := I36 } := by
  refine Contract.refine fun R ds k r h => ⟨_, f36_contract 0 HI_ok, ?_⟩
  unfold I36 at h
  split at h
  · rename_i x y
    rcases hc : okB x && okB y with _ | _
    · rw [hc] at h; cases h
    · rw [hc, cond_true] at h
      simp only [Bool.and_eq_true] at hc
      rw [f36_raw_eq, f36_num x y hc.1 hc.2]; exact h
  · cases h

noncomputable def HJ : Ctx := (36, { sig := S36, impl := I36 }) :: HI
theorem HJ_ok : CtxOk Try.prog HJ := ctxOk_cons ok36 rfl c36 HI_ok
end Go.Proofs.Ytcgolglcjfknpaa

/- the program's and the document's functions together. -/
namespace Go.Proofs.Ytcgolglcjfknpaa
open Go Go.Eng
set_option maxRecDepth 100000

noncomputable def GP0 : Ctx := (36, { sig := S36, impl := I36 }) :: (95, { sig := S95, impl := I95 }) :: (40, { sig := S40, impl := I40 }) :: (51, { sig := S51, impl := I51 }) :: (49, { sig := S49, impl := I49 }) :: (33, { sig := S33, impl := I33 }) :: (38, { sig := S38, impl := I38 }) :: (44, { sig := S44, impl := I44 }) :: (46, { sig := S46, impl := I46 }) :: (47, { sig := S47, impl := I47 }) :: (50, { sig := S50, impl := I50 }) :: (26, { sig := S26, impl := I26 }) :: (28, { sig := S28, impl := I28 }) :: (29, { sig := S29, impl := I29 }) :: (31, { sig := S31, impl := I31 }) :: (71, { sig := S71, impl := I71 }) :: (96, { sig := S96, impl := I96 }) :: (52, { sig := S52, impl := I52 }) :: (54, { sig := S54, impl := I54 }) :: GM'
theorem GP0_ok : CtxOk Try.prog GP0 := ctxOk_cons ok36 rfl c36 (ctxOk_cons ok95 rfl c95 (ctxOk_cons ok40 rfl c40 (ctxOk_cons ok51 rfl c51 (ctxOk_cons ok49 rfl c49 (ctxOk_cons ok33 rfl c33 (ctxOk_cons ok38 rfl c38 (ctxOk_cons ok44 rfl c44 (ctxOk_cons ok46 rfl c46 (ctxOk_cons ok47 rfl c47 (ctxOk_cons ok50 rfl c50 (ctxOk_cons ok26 rfl c26 (ctxOk_cons ok28 rfl c28 (ctxOk_cons ok29 rfl c29 (ctxOk_cons ok31 rfl c31 (ctxOk_cons ok71 rfl c71 (ctxOk_cons ok96 rfl c96 (ctxOk_cons ok52 rfl c52 (ctxOk_cons ok54 rfl c54 GM_ok'))))))))))))))))))
noncomputable def GP : Ctx := (999999, noFI) :: GP0
theorem GP_ok : CtxOk Try.prog GP := ctxOk_prune GP0_ok
def start2b (n : Nat) (x y : List Int) (c : Bool) : AS :=
  { n := n, lo := 0, tmps := [(0, .s (.one (.ints .u8 32 x))), (1, .s (.one (.ints .u8 32 y))), (2, .s (.one (.bool c)))], items := [] }
end Go.Proofs.Ytcgolglcjfknpaa

/- Split and Join of the program and of the document together. -/
namespace Go.Proofs.Ytcgolglcjfknpaa
open Go Go.Eng
set_option maxRecDepth 100000

noncomputable def GQ0 : Ctx := (14, { sig := S14, impl := I14 }) :: (16, { sig := S16, impl := I16 }) :: GP0
theorem GQ0_ok : CtxOk Try.prog GQ0 := ctxOk_cons ok14 rfl c14 (ctxOk_cons ok16 rfl c16 GP0_ok)
noncomputable def GQ : Ctx := (999999, noFI) :: GQ0
theorem GQ_ok : CtxOk Try.prog GQ := ctxOk_prune GQ0_ok
def start2w (n : Nat) (x y : List Int) : AS :=
  { n := n, lo := 0, tmps := [(0, .s (.one (.ints .u8 32 x))), (1, .s (.one (.ints .u64 5 y)))], items := [] }
end Go.Proofs.Ytcgolglcjfknpaa

/- What rime/rimelaw01.FieldLimbs comes to. MADE BY PROGRAM (wip/tools/mkfn.py, EngGen.lean). -/
namespace Go.Proofs.Ytcgolglcjfknpaa
open Go Go.Eng
set_option maxRecDepth 100000
set_option linter.unusedVariables false

noncomputable def f3_raw {R : Type} (N : Nat) (x : List Int) (y : List Int) (k : List DV → Option R) : Option R :=
 bif okB x then
 bif okB x then
 bif Decidable.decide (limS (vB x) = limS (vB x)) then
 bif okW y then
 bif okW y then
 let v0 : Bool := bif Bool.true then Decidable.decide (feN (numW y % p25519) = feN (numW y % p25519)) else Bool.false;
 bif v0 then
 let v1 : Bool := bif Bool.true then Bool.true else Bool.false;
 k [DV.v (SV.one (At.bool v1))]
 else Option.none
 else Option.none
 else Option.none
 else Option.none
 else Option.none
else Option.none


noncomputable def E3 (N : Nat) : Env := { Θ := Th, Γ := GQ, K := K3, ν := N3, fuel := 60, lp := [] }


theorem f3_loops (N : Nat) (hΓ : CtxOk Try.prog GQ) : LoopsOk Try.prog (E3 N).lp B3 := loopsOk_of (l := []) (by kernel_rfl) trivial
theorem f3_raw_eq {R : Type} (N : Nat) (x : List Int) (y : List Int) (k : List DV → Option R) : exec (E3 N) B3 (start2w 20 x y) (retK Th { ps := [], rs := [.val] } [] R3 k) = f3_raw N x y k := by kernel_rfl
end Go.Proofs.Ytcgolglcjfknpaa

/- FieldLimbs: the law's run comes to true. -/
namespace Go.Proofs.Ytcgolglcjfknpaa
open Go Go.Eng
set_option maxRecDepth 100000
theorem f3_true (N : Nat) {x y : List Int} (hx : okB x = true) (hy : okW y = true) : f3_raw N x y some = some [.v (.one (.bool true))] := by
  unfold f3_raw
  dsimp only
  simp only [hx, hy, Bool.and_self, cond_true, decide_true, beq_self_eq_true]
end Go.Proofs.Ytcgolglcjfknpaa

/- FieldLimbs: Split of any field element and Join of any five numbers answer as the document. -/
namespace Go.Proofs.Ytcgolglcjfknpaa
open Go Go.Eng Go.ChangeShapes Go.WideShapes Go.RowKit Go.ChangeAt
set_option maxRecDepth 100000

theorem contract3 (H : Type) (enc : TypeId × Value → H) (W : World) (base : Nat) (args : Array Value) (ds gs : List (DataW H)) (before : List MemPlace)
    (hval : ∀ (j : Nat) t v, Try.f3.params[j]? = some t → args[j]? = some v → Value.okWide Try.prog W .any base t v)
    (hW : DataW.Whole enc Try.prog Try.f3.params.toList Rows.fieldLimbsSpec.vars false W args.toList ds gs before) :
    Calls Try.prog 3 args W fun e W' => ∃ v, e = .returned v ∧ Rows.fieldLimbsSpec.post enc Try.prog Try.f3 false true false false W args v W' := by
  have hW' := hW
  obtain ⟨p, q, hA, hV, rfl, hfz, hnd⟩ := hW
  obtain ⟨rfl, rfl⟩ := trodVars_none hV
  rw [Try.params3] at hA hval
  obtain ⟨v0, vs0, d0, ds0, p0, q0, hargs, rfl, rfl, h0, r0⟩ := trodAll_cons hA
  obtain ⟨v1, vs1, d1, ds1, p1, q1, rfl, rfl, rfl, h1, r1⟩ := trodAll_cons r0
  obtain ⟨rfl, rfl, rfl⟩ := trodAll_nil r1
  obtain rfl : args = #[v0, v1] := by cases args; simp_all
  obtain ⟨x0, rfl, l0, w0⟩ := open_arr Try.underlying23 Try.underlying5 (by kernel_rfl) (by kernel_rfl) (hval 0 23 v0 rfl rfl) h0
  obtain ⟨x1, rfl, l1, w1⟩ := open_arr Try.underlying26 Try.underlying24 (by kernel_rfl) (by kernel_rfl) (hval 1 26 v1 rfl rfl) h1
  have hs : Sim W ⟨fun _ => False, locOf []⟩ (⟨locOf [], fun _ => 0⟩ : Rho) (start2w 20 x0 x1) { tmps := #[.agg (x0.map (Value.int .u8)).toArray, .agg (x1.map (Value.int .u64)).toArray] ++ Array.replicate (20 - 2) undef, defers := [] } W := by
    refine sim_start (s0 := start2w 20 x0 x1) (ρ := ⟨locOf [], fun _ => 0⟩) (args := #[.agg (x0.map (Value.int .u8)).toArray, .agg (x1.map (Value.int .u64)).toArray]) (n := 20) (avs := [.s (.one (.ints .u8 32 x0)), .s (.one (.ints .u64 5 x1))]) rfl (by simp) rfl ?_ ?_ ?_ ⟨⟨rfl, l0⟩, ⟨rfl, l1⟩, trivial⟩
    · simp [start2w, Nodup', putNames]
    · intro j it hi; simp [start2w, AS.I, findI] at hi
    · intro j p hp; cases hp
  have he := f3_true 60 (okB_row l0 w0) (okW_row l1 w1)
  rw [← f3_raw_eq] at he
  refine (law_calls thOk GQ_ok mixed ok3 (f3_loops 60 GQ_ok) (fun _ => id) hs he).mono fun e W' ⟨h1, h2, h3, h4⟩ => ?_
  exact ⟨_, h1, post_of_law laidOut (by kernel_rfl) Try.underlying4 rfl (by rw [Try.params3]; intro t ht; simp only [List.mem_cons, List.not_mem_nil, or_false] at ht; rcases ht with rfl | rfl <;> exact ⟨by kernel_rfl, by decide +kernel⟩) ⟨rfl, rfl, rfl⟩ hW' h2 h3 h4⟩

theorem lifted3 (os : Os) (started : os.Started) (H : Type) (enc : TypeId × Value → H) :
    ReturnsInHanded {} Try.checked os 3 .any (Rows.fieldLimbsSpec.pre6 enc Try.prog Try.f3 Rows.fieldLimbsRow.domain false) (Rows.fieldLimbsSpec.post enc Try.prog Try.f3 false true false false) := by
  refine returnsInHanded_of_change (C := Try.checked) own0 started (by kernel_rfl) Try.func3
    (ChangeSpec.witness6 (enc := enc) (C := Try.checked) false ⟨#[], #[.agg (Array.mk (List.replicate 32 (Value.int .u8 0))), .agg (Array.mk (List.replicate 5 (Value.int .u64 0)))], []⟩ 8 (by kernel_rfl) (by kernel_rfl) (by kernel_rfl) (by kernel_rfl)) ?_
  intro W base args ds gs before hval hW _ _
  exact contract3 H enc W base args ds gs before hval hW

theorem fieldLimbs_holds : Rows.FieldLimbsSaid :=
  OpenClaim.holds_of_wide 3 Try.f3 rfl rfl rfl rfl rfl rfl rfl ⟨rfl, rfl, rfl, rfl, rfl⟩ rfl rfl rfl rfl rfl (by kernel_rfl) Try.func3 (by kernel_rfl)
    (of_decide_eq_true (by kernel_rfl)) (by unfold Func.isWrapper; first | (rw [if_pos (by decide +kernel)]; kernel_rfl) | (rw [if_neg (by decide +kernel)]; exact ⟨rfl, rfl⟩))
    (fun os started H enc _ => lifted3 os started H enc)
end Go.Proofs.Ytcgolglcjfknpaa

#print axioms Go.Proofs.Ytcgolglcjfknpaa.fieldLimbs_holds
