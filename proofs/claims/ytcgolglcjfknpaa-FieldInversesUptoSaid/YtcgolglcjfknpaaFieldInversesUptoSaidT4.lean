/- A part of the proof: FieldInverses: for any list of field elements whose data stay within 1,048,576: InvertAll answers as the document, and the list that was handed in stands as it stood. -/
import Derived.Test.YtcgolglcjfknpaaFieldInversesUptoSaidT3
set_option linter.unusedVariables false
set_option linter.unusedSimpArgs false

/- What rime/rimeplain.markFes comes to. MADE BY PROGRAM (wip/tools/mkfn.py, EngGen.lean). -/
namespace Go.Proofs.Ytcgolglcjfknpaa
open Go Go.Eng
set_option maxRecDepth 100000
set_option linter.unusedVariables false

noncomputable def f101_raw {R : Type} (N : Nat) (i : Int) (j : Int) (k : List DV → Option R) : Option R :=
 let v0 : Int := IntKind.u8.wrap i;
let v1 : List Int := (List.replicate 32 0).set 0 v0;
let v2 : Int := shrI IntKind.i64 i 8;
let v3 : Int := IntKind.u8.wrap v2;
let v4 : List Int := v1.set 1 v3;
let v5 : Int := IntKind.u8.wrap j;
let v6 : List Int := v4.set 2 v5;
let v7 : Int := shrI IntKind.i64 j 8;
let v8 : Int := IntKind.u8.wrap v7;
let v9 : List Int := v6.set 3 v8;
let v10 : List Int := v9.set 4 77;
k [DV.v (SV.one (At.ints IntKind.u8 32 v10))]


noncomputable def E101 (N : Nat) : Env := { Θ := Th, Γ := [], K := K101, ν := N101, fuel := 0, lp := [] }


theorem f101_contract (N : Nat) (hΓ : CtxOk Try.prog []) : Contract Try.prog 101 { sig := S101, impl := fun _ ds k => call (E101 N) S101 16 B101 R101 ds k } :=
  call_contract (E := E101 N) thOk hΓ mixed ok101.look ok101.body ok101.n ok101.rv ok101.name rfl (by decide) (loopsOk_of (l := []) (by kernel_rfl) trivial)
theorem f101_raw_eq {R : Type} (N : Nat) (i : Int) (j : Int) (k : List DV → Option R) : call (E101 N) S101 16 B101 R101 [.v (.one (.int .i64 i)), .v (.one (.int .i64 j))] k = f101_raw N i j k := by kernel_rfl
end Go.Proofs.Ytcgolglcjfknpaa

/- What rime/rimeplain.CopyFes comes to. MADE BY PROGRAM (wip/tools/mkfn.py, EngGen.lean). -/
namespace Go.Proofs.Ytcgolglcjfknpaa
open Go Go.Eng
set_option maxRecDepth 100000
set_option linter.unusedVariables false

noncomputable def f60_raw {R : Type} (N : Nat) (x : List Int) (k : List DV → Option R) : Option R :=
 bif (rowLen 32 x * 32).ble big48 && (rowLen 32 x).ble big48 then k [DV.lst IntKind.u8 32 x] else Option.none


noncomputable def E60 (N : Nat) : Env := { Θ := Th, Γ := [], K := K60, ν := N60, fuel := 0, lp := [] }


theorem f60_contract (N : Nat) (hΓ : CtxOk Try.prog []) : Contract Try.prog 60 { sig := S60, impl := fun _ ds k => call (E60 N) S60 8 B60 R60 ds k } :=
  call_contract (E := E60 N) thOk hΓ mixed ok60.look ok60.body ok60.n ok60.rv ok60.name rfl (by decide) (loopsOk_of (l := []) (by kernel_rfl) trivial)
theorem f60_raw_eq {R : Type} (N : Nat) (x : List Int) (k : List DV → Option R) : call (E60 N) S60 8 B60 R60 [.lst .u8 32 x] k = f60_raw N x k := by kernel_rfl
end Go.Proofs.Ytcgolglcjfknpaa

/- What rime/rimeplain.SameFes comes to. MADE BY PROGRAM (wip/tools/mkfn.py, EngGen.lean). -/
namespace Go.Proofs.Ytcgolglcjfknpaa
open Go Go.Eng
set_option maxRecDepth 100000
set_option linter.unusedVariables false

def f56_0_sh : Shp := { n := 26, lo := 2, slots := [(0, .one (.fix (At.own 0))), (1, .one (.fix (At.own 1))), (5, .one (.int IntKind.i64))], items := [(0, .view IntKind.u8 32), (1, .view IntKind.u8 32)] }
def f56_0_ex1 : Shp := { n := 26, lo := 2, slots := [(4, .one (.bool)), (25, .one (.bool)), (14, .one (.bool)), (0, .one (.fix (At.own 0))), (1, .one (.fix (At.own 1))), (5, .one (.int IntKind.i64))], items := [(0, .view IntKind.u8 32), (1, .view IntKind.u8 32)] }
def f56_0_ex2 : Shp := { n := 26, lo := 2, slots := [(14, .one (.bool)), (0, .one (.fix (At.own 0))), (1, .one (.fix (At.own 1))), (5, .one (.int IntKind.i64))], items := [(0, .view IntKind.u8 32), (1, .view IntKind.u8 32)] }
noncomputable def f56_0_st {R : Type} (N : Nat) (self : Int → List Int → List Int → Option R) (k1 : Bool → Bool → Bool → Int → List Int → List Int → Option R) (k2 : Bool → Int → List Int → List Int → Option R) (x1 : Int) (x2 : List Int) (x3 : List Int) : Option R :=
 bif Decidable.decide (x1 < nI (rowLen 32 x2)) then
 bif Decidable.decide (0 ≤ x1) && Decidable.decide (x1 < nI (rowLen 32 x2)) then
 bif Decidable.decide (0 ≤ x1) && Decidable.decide (x1 < nI (rowLen 32 x3)) then
 bif !Decidable.decide (List.take 32 (List.drop (mulE x1.toNat 32) x2) = List.take 32 (List.drop (mulE x1.toNat 32) x3)) then k1 Bool.false (!Decidable.decide (List.take 32 (List.drop (mulE x1.toNat 32) x2) = List.take 32 (List.drop (mulE x1.toNat 32) x3))) (Decidable.decide (x1 < nI (rowLen 32 x2))) x1 x2 x3
 else
 let v0 : Int := IntKind.i64.wrap (x1 + 1);
 self v0 x2 x3
 else Option.none
 else Option.none
else k2 (Decidable.decide (x1 < nI (rowLen 32 x2))) x1 x2 x3
noncomputable def f56_0_lp {R : Type} (N : Nat) (k1 : Bool → Bool → Bool → Int → List Int → List Int → Option R) (k2 : Bool → Int → List Int → List Int → Option R) : Nat → Int → List Int → List Int → Option R
 | 0, _, _, _ => none
 | n + 1, x1, x2, x3 => f56_0_st N (f56_0_lp N k1 k2 n) k1 k2 x1 x2 x3
noncomputable def f56_0_F (N : Nat) : (R : Type) → List Leaf → (X → AS → Option R) → Option R := fun _ ls K => match ls with
 | [.i x1, .l x2, .l x3] => f56_0_lp N (fun y1 y2 y3 y4 y5 y6 => K (X.ret) (fill f56_0_ex1 [.b y1, .b y2, .b y3, .i y4, .l y5, .l y6])) (fun y1 y2 y3 y4 => K (X.normal) (fill f56_0_ex2 [.b y1, .i y2, .l y3, .l y4])) N x1 x2 x3
 | _ => none
noncomputable def f56_raw {R : Type} (N : Nat) (x : List Int) (y : List Int) (k : List DV → Option R) : Option R :=
 bif nI (rowLen 32 x) != nI (rowLen 32 y) then k [DV.v (SV.one (At.bool Bool.false))] else f56_0_lp N (fun w0_1 w0_2 w0_3 w0_4 w0_5 w0_6 => k [DV.v (SV.one (At.bool w0_1))]) (fun w1_1 w1_2 w1_3 w1_4 => k [DV.v (SV.one (At.bool Bool.true))]) N 0 x y


noncomputable def E56 (N : Nat) : Env := { Θ := Th, Γ := [], K := K56, ν := N56, fuel := 0, lp := [(0, mkL N56_0 f56_0_sh (f56_0_F N))] }

theorem f56_0_st_eq {R : Type} (N : Nat) (K : X → AS → Option R) (n : Nat) (x1 : Int) (x2 : List Int) (x3 : List Int) : roundsOf (E56 N) N56_0 0 B56_0 K (n + 1) (fill f56_0_sh [.i x1, .l x2, .l x3]) = f56_0_st N (fun x1 x2 x3 => roundsOf (E56 N) N56_0 0 B56_0 K n (fill f56_0_sh [.i x1, .l x2, .l x3])) (fun y1 y2 y3 y4 y5 y6 => K (X.ret) (fill f56_0_ex1 [.b y1, .b y2, .b y3, .i y4, .l y5, .l y6])) (fun y1 y2 y3 y4 => K (X.normal) (fill f56_0_ex2 [.b y1, .i y2, .l y3, .l y4])) x1 x2 x3 := by kernel_rfl
theorem f56_0_lp_eq {R : Type} (N : Nat) (K : X → AS → Option R) : ∀ (n : Nat) (x1 : Int) (x2 : List Int) (x3 : List Int), roundsOf (E56 N) N56_0 0 B56_0 K n (fill f56_0_sh [.i x1, .l x2, .l x3]) = f56_0_lp N (fun y1 y2 y3 y4 y5 y6 => K (X.ret) (fill f56_0_ex1 [.b y1, .b y2, .b y3, .i y4, .l y5, .l y6])) (fun y1 y2 y3 y4 => K (X.normal) (fill f56_0_ex2 [.b y1, .i y2, .l y3, .l y4])) n x1 x2 x3
  | 0, _, _, _ => rfl
  | n + 1, x1, x2, x3 => by
    rw [f56_0_st_eq, f56_0_lp, show (fun x1 x2 x3 => roundsOf (E56 N) N56_0 0 B56_0 K n (fill f56_0_sh [.i x1, .l x2, .l x3])) = f56_0_lp N (fun y1 y2 y3 y4 y5 y6 => K (X.ret) (fill f56_0_ex1 [.b y1, .b y2, .b y3, .i y4, .l y5, .l y6])) (fun y1 y2 y3 y4 => K (X.normal) (fill f56_0_ex2 [.b y1, .i y2, .l y3, .l y4])) n from by funext x1 x2 x3; exact f56_0_lp_eq N K n x1 x2 x3]
theorem f56_0_ok (N : Nat) (hlp : LoopsOk Try.prog (E56 N).lp B56_0) (hΓ : CtxOk Try.prog (E56 N).Γ) : LoopOk Try.prog (mkL N56_0 f56_0_sh (f56_0_F N)) 0 B56_0 := by
  refine loopOk_of (E := E56 N) thOk hΓ mixed hlp ?_
  intro R ls K r h
  unfold f56_0_F at h
  split at h
  · exact ⟨N, by rw [f56_0_lp_eq]; exact h⟩
  · cases h

theorem lok56_0 (N : Nat) (hΓ : CtxOk Try.prog []) : LoopOk Try.prog (mkL N56_0 f56_0_sh (f56_0_F N)) 0 B56_0 := f56_0_ok N (loopsOk_of (l := []) (by kernel_rfl) trivial) hΓ
theorem f56_contract (N : Nat) (hΓ : CtxOk Try.prog []) : Contract Try.prog 56 { sig := S56, impl := fun _ ds k => call (E56 N) S56 26 B56 R56 ds k } :=
  call_contract (E := E56 N) thOk hΓ mixed ok56.look ok56.body ok56.n ok56.rv ok56.name rfl (by decide) (loopsOk_of (l := [(0, B56_0)]) (by kernel_rfl) (allOk_cons (L := mkL N56_0 f56_0_sh (f56_0_F N)) rfl (lok56_0 N hΓ) trivial))
theorem f56_raw_eq {R : Type} (N : Nat) (x : List Int) (y : List Int) (k : List DV → Option R) : call (E56 N) S56 26 B56 R56 [.lst .u8 32 x, .lst .u8 32 y] k = f56_raw N x y k := by kernel_rfl
end Go.Proofs.Ytcgolglcjfknpaa

/- What rime/rimeref01.prime comes to. MADE BY PROGRAM (wip/tools/mkfn.py, EngGen.lean). -/
namespace Go.Proofs.Ytcgolglcjfknpaa
open Go Go.Eng
set_option maxRecDepth 100000
set_option linter.unusedVariables false

noncomputable def f128_raw {R : Type} (N : Nat) (x : Int) (k : List DV → Option R) : Option R :=
 bif x == 0 then k [DV.v (SV.one (At.int IntKind.u64 65517))] else bif x == 15 then k [DV.v (SV.one (At.int IntKind.u64 32767))] else k [DV.v (SV.one (At.int IntKind.u64 65535))]


noncomputable def E128 (N : Nat) : Env := { Θ := Th, Γ := [], K := K128, ν := N128, fuel := 0, lp := [] }


theorem f128_contract (N : Nat) (hΓ : CtxOk Try.prog []) : Contract Try.prog 128 { sig := S128, impl := fun _ ds k => call (E128 N) S128 8 B128 R128 ds k } :=
  call_contract (E := E128 N) thOk hΓ mixed ok128.look ok128.body ok128.n ok128.rv ok128.name rfl (by decide) (loopsOk_of (l := []) (by kernel_rfl) trivial)
theorem f128_raw_eq {R : Type} (N : Nat) (x : Int) (k : List DV → Option R) : call (E128 N) S128 8 B128 R128 [.v (.one (.int .i64 x))] k = f128_raw N x k := by kernel_rfl
end Go.Proofs.Ytcgolglcjfknpaa

/- The digits of p, as the document's answer has them. -/
namespace Go.Proofs.Ytcgolglcjfknpaa
open Go Go.Eng
set_option maxRecDepth 100000
def pD (x : Int) : Int := bif x == 0 then 65517 else bif x == 15 then 32767 else 65535
def I128 : (R : Type) → List DV → (List DV → Option R) → Option R := fun _ ds k => match ds with
  | [.v (.one (.int .i64 x))] => k [.v (.one (.int .u64 (pD x)))]
  | _ => none
theorem sel2 {R : Type} (c1 c2 : Bool) (a b c : Int) (k : List DV → Option R) :
    (bif c1 then k [.v (.one (.int .u64 a))] else bif c2 then k [.v (.one (.int .u64 b))] else k [.v (.one (.int .u64 c))]) = k [.v (.one (.int .u64 (bif c1 then a else bif c2 then b else c)))] := by
  cases c1 <;> cases c2 <;> rfl
theorem c128 : Contract Try.prog 128 { sig := S128, impl := I128 } := by
  refine Contract.refine fun R ds k r h => ⟨_, f128_contract 0 ctxOk_nil, ?_⟩
  unfold I128 at h
  split at h
  · rw [f128_raw_eq]
    unfold f128_raw
    rw [← h]
    exact sel2 _ _ _ _ _ k
  · cases h
noncomputable def HA : Ctx := [(128, { sig := S128, impl := I128 })]
theorem HA_ok : CtxOk Try.prog HA := ctxOk_cons ok128 rfl c128 ctxOk_nil
end Go.Proofs.Ytcgolglcjfknpaa

/- What rime/rimeref01.atLeast comes to. MADE BY PROGRAM (wip/tools/mkfn.py, EngGen.lean). -/
namespace Go.Proofs.Ytcgolglcjfknpaa
open Go Go.Eng
set_option maxRecDepth 100000
set_option linter.unusedVariables false

def f129_0_sh : Shp := { n := 20, lo := 1, slots := [(1, .one (.fix (At.ptr 1 0 Off.z 16))), (3, .one (.int IntKind.i64))], items := [(1, .obj [.ints IntKind.u64 16])] }
def f129_0_ex1 : Shp := { n := 20, lo := 1, slots := [(2, .one (.bool)), (13, .one (.bool)), (5, .one (.bool)), (1, .one (.fix (At.ptr 1 0 Off.z 16))), (3, .one (.int IntKind.i64))], items := [(1, .obj [.ints IntKind.u64 16])] }
def f129_0_ex2 : Shp := { n := 20, lo := 1, slots := [(5, .one (.bool)), (1, .one (.fix (At.ptr 1 0 Off.z 16))), (3, .one (.int IntKind.i64))], items := [(1, .obj [.ints IntKind.u64 16])] }
noncomputable def f129_0_st {R : Type} (N : Nat) (self : Int → List Int → Option R) (k1 : Bool → Bool → Bool → Int → List Int → Option R) (k2 : Bool → Int → List Int → Option R) (x1 : Int) (x2 : List Int) : Option R :=
 bif Decidable.decide (x1 ≥ 0) then
 bif Decidable.decide (0 ≤ x1) && Decidable.decide (x1 < 16) then
 bif x2.getD (mulE x1.toNat 1) 0 != pD x1 then bif Decidable.decide (0 ≤ x1) && Decidable.decide (x1 < 16) then k1 (Decidable.decide (x2.getD (mulE x1.toNat 1) 0 > pD x1)) (x2.getD (mulE x1.toNat 1) 0 != pD x1) (Decidable.decide (x1 ≥ 0)) x1 x2 else Option.none
 else
 let v0 : Int := IntKind.i64.wrap (x1 - 1);
 self v0 x2
 else Option.none
else k2 (Decidable.decide (x1 ≥ 0)) x1 x2
noncomputable def f129_0_lp {R : Type} (N : Nat) (k1 : Bool → Bool → Bool → Int → List Int → Option R) (k2 : Bool → Int → List Int → Option R) : Nat → Int → List Int → Option R
 | 0, _, _ => none
 | n + 1, x1, x2 => f129_0_st N (f129_0_lp N k1 k2 n) k1 k2 x1 x2
noncomputable def f129_0_F (N : Nat) : (R : Type) → List Leaf → (X → AS → Option R) → Option R := fun _ ls K => match ls with
 | [.i x1, .l x2] => f129_0_lp N (fun y1 y2 y3 y4 y5 => K (X.ret) (fill f129_0_ex1 [.b y1, .b y2, .b y3, .i y4, .l y5])) (fun y1 y2 y3 => K (X.normal) (fill f129_0_ex2 [.b y1, .i y2, .l y3])) N x1 x2
 | _ => none
noncomputable def f129_raw {R : Type} (N : Nat) (x : List Int) (k : List DV → Option R) : Option R :=
 f129_0_lp N (fun w0_1 w0_2 w0_3 w0_4 w0_5 => k [DV.v (SV.one (At.bool w0_1))]) (fun w1_1 w1_2 w1_3 => k [DV.v (SV.one (At.bool Bool.true))]) N 15 x


noncomputable def E129 (N : Nat) : Env := { Θ := Th, Γ := HA, K := K129, ν := N129, fuel := 0, lp := [(0, mkL N129_0 f129_0_sh (f129_0_F N))] }

theorem f129_0_st_eq {R : Type} (N : Nat) (K : X → AS → Option R) (n : Nat) (x1 : Int) (x2 : List Int) : roundsOf (E129 N) N129_0 0 B129_0 K (n + 1) (fill f129_0_sh [.i x1, .l x2]) = f129_0_st N (fun x1 x2 => roundsOf (E129 N) N129_0 0 B129_0 K n (fill f129_0_sh [.i x1, .l x2])) (fun y1 y2 y3 y4 y5 => K (X.ret) (fill f129_0_ex1 [.b y1, .b y2, .b y3, .i y4, .l y5])) (fun y1 y2 y3 => K (X.normal) (fill f129_0_ex2 [.b y1, .i y2, .l y3])) x1 x2 := by kernel_rfl
theorem f129_0_lp_eq {R : Type} (N : Nat) (K : X → AS → Option R) : ∀ (n : Nat) (x1 : Int) (x2 : List Int), roundsOf (E129 N) N129_0 0 B129_0 K n (fill f129_0_sh [.i x1, .l x2]) = f129_0_lp N (fun y1 y2 y3 y4 y5 => K (X.ret) (fill f129_0_ex1 [.b y1, .b y2, .b y3, .i y4, .l y5])) (fun y1 y2 y3 => K (X.normal) (fill f129_0_ex2 [.b y1, .i y2, .l y3])) n x1 x2
  | 0, _, _ => rfl
  | n + 1, x1, x2 => by
    rw [f129_0_st_eq, f129_0_lp, show (fun x1 x2 => roundsOf (E129 N) N129_0 0 B129_0 K n (fill f129_0_sh [.i x1, .l x2])) = f129_0_lp N (fun y1 y2 y3 y4 y5 => K (X.ret) (fill f129_0_ex1 [.b y1, .b y2, .b y3, .i y4, .l y5])) (fun y1 y2 y3 => K (X.normal) (fill f129_0_ex2 [.b y1, .i y2, .l y3])) n from by funext x1 x2; exact f129_0_lp_eq N K n x1 x2]
theorem f129_0_ok (N : Nat) (hlp : LoopsOk Try.prog (E129 N).lp B129_0) (hΓ : CtxOk Try.prog (E129 N).Γ) : LoopOk Try.prog (mkL N129_0 f129_0_sh (f129_0_F N)) 0 B129_0 := by
  refine loopOk_of (E := E129 N) thOk hΓ mixed hlp ?_
  intro R ls K r h
  unfold f129_0_F at h
  split at h
  · exact ⟨N, by rw [f129_0_lp_eq]; exact h⟩
  · cases h

theorem lok129_0 (N : Nat) (hΓ : CtxOk Try.prog HA) : LoopOk Try.prog (mkL N129_0 f129_0_sh (f129_0_F N)) 0 B129_0 := f129_0_ok N (loopsOk_of (l := []) (by kernel_rfl) trivial) hΓ
theorem f129_contract (N : Nat) (hΓ : CtxOk Try.prog HA) : Contract Try.prog 129 { sig := S129, impl := fun _ ds k => call (E129 N) S129 20 B129 R129 ds k } :=
  call_contract (E := E129 N) thOk hΓ mixed ok129.look ok129.body ok129.n ok129.rv ok129.name rfl (by decide) (loopsOk_of (l := [(0, B129_0)]) (by kernel_rfl) (allOk_cons (L := mkL N129_0 f129_0_sh (f129_0_F N)) rfl (lok129_0 N hΓ) trivial))
theorem f129_raw_eq {R : Type} (N : Nat) (x : List Int) (k : List DV → Option R) : call (E129 N) S129 20 B129 R129 [.v (.one (.ints .u64 16 x))] k = f129_raw N x k := by kernel_rfl
end Go.Proofs.Ytcgolglcjfknpaa

/- What rime/rimeref01.lessP comes to. MADE BY PROGRAM (wip/tools/mkfn.py, EngGen.lean). -/
namespace Go.Proofs.Ytcgolglcjfknpaa
open Go Go.Eng
set_option maxRecDepth 100000
set_option linter.unusedVariables false

def f130_0_sh : Shp := { n := 27, lo := 1, slots := [(1, .one (.fix (At.ptr 1 0 Off.z 16))), (2, .one (.fix (At.ptr 2 0 Off.z 16))), (3, .one (.int IntKind.u64)), (4, .one (.int IntKind.i64))], items := [(1, .obj [.ints IntKind.u64 16]), (2, .obj [.ints IntKind.u64 16])] }
def f130_0_ex1 : Shp := { n := 27, lo := 1, slots := [(7, .one (.bool)), (1, .one (.fix (At.ptr 1 0 Off.z 16))), (2, .one (.fix (At.ptr 2 0 Off.z 16))), (3, .one (.int IntKind.u64)), (4, .one (.int IntKind.i64))], items := [(1, .obj [.ints IntKind.u64 16]), (2, .obj [.ints IntKind.u64 16])] }
noncomputable def f130_0_st {R : Type} (N : Nat) (self : Int → Int → List Int → List Int → Option R) (k1 : Bool → Int → Int → List Int → List Int → Option R) (x1 : Int) (x2 : Int) (x3 : List Int) (x4 : List Int) : Option R :=
 bif Decidable.decide (x2 < 16) then
 bif Decidable.decide (0 ≤ x2) && Decidable.decide (x2 < 16) then
 bif Decidable.decide (0 ≤ x2) && Decidable.decide (x2 < 16) then
 let v0 : Int := IntKind.u64.wrap (x3.getD (mulE x2.toNat 1) 0 + 65536);
 let v1 : Int := IntKind.u64.wrap (v0 - pD x2);
 let v2 : Int := IntKind.u64.wrap (v1 - x1);
 let v3 : Int := IntKind.u64.wrap (v2.tdiv 65536);
 let v4 : Int := IntKind.u64.wrap (1 - v3);
 let v5 : Int := IntKind.i64.wrap (x2 + 1);
 let v6 : List Int := x3.set (mulE x2.toNat 1) (v2.tmod 65536);
 self v4 v5 v6 x4
 else Option.none
 else Option.none
else k1 (Decidable.decide (x2 < 16)) x1 x2 x3 x4
noncomputable def f130_0_lp {R : Type} (N : Nat) (k1 : Bool → Int → Int → List Int → List Int → Option R) : Nat → Int → Int → List Int → List Int → Option R
 | 0, _, _, _, _ => none
 | n + 1, x1, x2, x3, x4 => f130_0_st N (f130_0_lp N k1 n) k1 x1 x2 x3 x4
noncomputable def f130_0_F (N : Nat) : (R : Type) → List Leaf → (X → AS → Option R) → Option R := fun _ ls K => match ls with
 | [.i x1, .i x2, .l x3, .l x4] => f130_0_lp N (fun y1 y2 y3 y4 y5 => K (X.normal) (fill f130_0_ex1 [.b y1, .i y2, .i y3, .l y4, .l y5])) N x1 x2 x3 x4
 | _ => none
noncomputable def f130_raw {R : Type} (N : Nat) (x : List Int) (k : List DV → Option R) : Option R :=
 f130_0_lp N (fun w0_1 w0_2 w0_3 w0_4 w0_5 => k [DV.v (SV.one (At.ints IntKind.u64 16 w0_4))]) N 0 0 x (List.replicate 16 0)


noncomputable def E130 (N : Nat) : Env := { Θ := Th, Γ := HA, K := K130, ν := N130, fuel := 0, lp := [(0, mkL N130_0 f130_0_sh (f130_0_F N))] }

theorem f130_0_st_eq {R : Type} (N : Nat) (K : X → AS → Option R) (n : Nat) (x1 : Int) (x2 : Int) (x3 : List Int) (x4 : List Int) : roundsOf (E130 N) N130_0 0 B130_0 K (n + 1) (fill f130_0_sh [.i x1, .i x2, .l x3, .l x4]) = f130_0_st N (fun x1 x2 x3 x4 => roundsOf (E130 N) N130_0 0 B130_0 K n (fill f130_0_sh [.i x1, .i x2, .l x3, .l x4])) (fun y1 y2 y3 y4 y5 => K (X.normal) (fill f130_0_ex1 [.b y1, .i y2, .i y3, .l y4, .l y5])) x1 x2 x3 x4 := by kernel_rfl
theorem f130_0_lp_eq {R : Type} (N : Nat) (K : X → AS → Option R) : ∀ (n : Nat) (x1 : Int) (x2 : Int) (x3 : List Int) (x4 : List Int), roundsOf (E130 N) N130_0 0 B130_0 K n (fill f130_0_sh [.i x1, .i x2, .l x3, .l x4]) = f130_0_lp N (fun y1 y2 y3 y4 y5 => K (X.normal) (fill f130_0_ex1 [.b y1, .i y2, .i y3, .l y4, .l y5])) n x1 x2 x3 x4
  | 0, _, _, _, _ => rfl
  | n + 1, x1, x2, x3, x4 => by
    rw [f130_0_st_eq, f130_0_lp, show (fun x1 x2 x3 x4 => roundsOf (E130 N) N130_0 0 B130_0 K n (fill f130_0_sh [.i x1, .i x2, .l x3, .l x4])) = f130_0_lp N (fun y1 y2 y3 y4 y5 => K (X.normal) (fill f130_0_ex1 [.b y1, .i y2, .i y3, .l y4, .l y5])) n from by funext x1 x2 x3 x4; exact f130_0_lp_eq N K n x1 x2 x3 x4]
theorem f130_0_ok (N : Nat) (hlp : LoopsOk Try.prog (E130 N).lp B130_0) (hΓ : CtxOk Try.prog (E130 N).Γ) : LoopOk Try.prog (mkL N130_0 f130_0_sh (f130_0_F N)) 0 B130_0 := by
  refine loopOk_of (E := E130 N) thOk hΓ mixed hlp ?_
  intro R ls K r h
  unfold f130_0_F at h
  split at h
  · exact ⟨N, by rw [f130_0_lp_eq]; exact h⟩
  · cases h

theorem lok130_0 (N : Nat) (hΓ : CtxOk Try.prog HA) : LoopOk Try.prog (mkL N130_0 f130_0_sh (f130_0_F N)) 0 B130_0 := f130_0_ok N (loopsOk_of (l := []) (by kernel_rfl) trivial) hΓ
theorem f130_contract (N : Nat) (hΓ : CtxOk Try.prog HA) : Contract Try.prog 130 { sig := S130, impl := fun _ ds k => call (E130 N) S130 27 B130 R130 ds k } :=
  call_contract (E := E130 N) thOk hΓ mixed ok130.look ok130.body ok130.n ok130.rv ok130.name rfl (by decide) (loopsOk_of (l := [(0, B130_0)]) (by kernel_rfl) (allOk_cons (L := mkL N130_0 f130_0_sh (f130_0_F N)) rfl (lok130_0 N hΓ) trivial))
theorem f130_raw_eq {R : Type} (N : Nat) (x : List Int) (k : List DV → Option R) : call (E130 N) S130 27 B130 R130 [.v (.one (.ints .u64 16 x))] k = f130_raw N x k := by kernel_rfl
end Go.Proofs.Ytcgolglcjfknpaa

/- What rime/rimeref01.digits comes to. MADE BY PROGRAM (wip/tools/mkfn.py, EngGen.lean). -/
namespace Go.Proofs.Ytcgolglcjfknpaa
open Go Go.Eng
set_option maxRecDepth 100000
set_option linter.unusedVariables false

def f125_0_sh : Shp := { n := 37, lo := 1, slots := [(0, .one (.fix (At.own 0))), (3, .one (.fix (At.own 9))), (4, .one (.int IntKind.i64))], items := [(0, .view IntKind.u8 1), (9, .row IntKind.u64 1)] }
def f125_0_ex1 : Shp := { n := 37, lo := 1, slots := [(13, .one (.bool)), (0, .one (.fix (At.own 0))), (3, .one (.fix (At.own 9))), (4, .one (.int IntKind.i64))], items := [(0, .view IntKind.u8 1), (9, .row IntKind.u64 1)] }
noncomputable def f125_0_st {R : Type} (N : Nat) (self : Int → List Int → List Int → Option R) (k1 : Bool → Int → List Int → List Int → Option R) (x1 : Int) (x2 : List Int) (x3 : List Int) : Option R :=
 bif Decidable.decide (x1 < nI (rowLen 1 x2)) then
 let v0 : Int := IntKind.i64.wrap (x1.tdiv 2);
 bif Decidable.decide (0 ≤ v0) && Decidable.decide (v0 < nI (rowLen 1 x3)) then
 bif Decidable.decide (0 ≤ x1) && Decidable.decide (x1 < nI (rowLen 1 x2)) then
 let v1 : Int := IntKind.i64.wrap (8 * x1.tmod 2);
 let v2 : Int := IntKind.u64.wrap v1;
 bif Decidable.decide (0 ≤ v2) then
 bif Decidable.decide (0 ≤ v0) && Decidable.decide (v0 < nI (rowLen 1 x3)) then
 let v3 : Int := IntKind.i64.wrap (x1 + 1);
 let v4 : Int := IntKind.u64.wrap (x2.getD (mulE x1.toNat 1) 0);
 let v5 : Int := shlI IntKind.u64 v4 v2;
 let v6 : Int := IntKind.u64.wrap (x3.getD (mulE v0.toNat 1) 0 + v5);
 let v7 : List Int := x3.set (mulE v0.toNat 1) v6;
 self v3 x2 v7
 else Option.none
 else Option.none
 else Option.none
 else Option.none
else k1 (Decidable.decide (x1 < nI (rowLen 1 x2))) x1 x2 x3
noncomputable def f125_0_lp {R : Type} (N : Nat) (k1 : Bool → Int → List Int → List Int → Option R) : Nat → Int → List Int → List Int → Option R
 | 0, _, _, _ => none
 | n + 1, x1, x2, x3 => f125_0_st N (f125_0_lp N k1 n) k1 x1 x2 x3
noncomputable def f125_0_F (N : Nat) : (R : Type) → List Leaf → (X → AS → Option R) → Option R := fun _ ls K => match ls with
 | [.i x1, .l x2, .l x3] => f125_0_lp N (fun y1 y2 y3 y4 => K (X.normal) (fill f125_0_ex1 [.b y1, .i y2, .l y3, .l y4])) N x1 x2 x3
 | _ => none
noncomputable def f125_raw {R : Type} (N : Nat) (e : List Int) (k : List DV → Option R) : Option R :=
 let v0 : Int := IntKind.i64.wrap (nI (rowLen 1 e) + 1);
let v1 : Int := IntKind.i64.wrap (v0.tdiv 2);
bif Decidable.decide (0 ≤ v1) && (Decidable.decide (v1 ≤ v1) && (Decidable.decide (v1 ≤ 281474976710656) && Decidable.decide (v1 * 8 ≤ 281474976710656))) then f125_0_lp N (fun w2_1 w2_2 w2_3 w2_4 => k [DV.lst IntKind.u64 1 w2_4]) N 0 e (zerosOf (mulE v1.toNat 1)) else Option.none


noncomputable def E125 (N : Nat) : Env := { Θ := Th, Γ := [], K := K125, ν := N125, fuel := 0, lp := [(0, mkL N125_0 f125_0_sh (f125_0_F N))] }

theorem f125_0_st_eq {R : Type} (N : Nat) (K : X → AS → Option R) (n : Nat) (x1 : Int) (x2 : List Int) (x3 : List Int) : roundsOf (E125 N) N125_0 0 B125_0 K (n + 1) (fill f125_0_sh [.i x1, .l x2, .l x3]) = f125_0_st N (fun x1 x2 x3 => roundsOf (E125 N) N125_0 0 B125_0 K n (fill f125_0_sh [.i x1, .l x2, .l x3])) (fun y1 y2 y3 y4 => K (X.normal) (fill f125_0_ex1 [.b y1, .i y2, .l y3, .l y4])) x1 x2 x3 := by kernel_rfl
theorem f125_0_lp_eq {R : Type} (N : Nat) (K : X → AS → Option R) : ∀ (n : Nat) (x1 : Int) (x2 : List Int) (x3 : List Int), roundsOf (E125 N) N125_0 0 B125_0 K n (fill f125_0_sh [.i x1, .l x2, .l x3]) = f125_0_lp N (fun y1 y2 y3 y4 => K (X.normal) (fill f125_0_ex1 [.b y1, .i y2, .l y3, .l y4])) n x1 x2 x3
  | 0, _, _, _ => rfl
  | n + 1, x1, x2, x3 => by
    rw [f125_0_st_eq, f125_0_lp, show (fun x1 x2 x3 => roundsOf (E125 N) N125_0 0 B125_0 K n (fill f125_0_sh [.i x1, .l x2, .l x3])) = f125_0_lp N (fun y1 y2 y3 y4 => K (X.normal) (fill f125_0_ex1 [.b y1, .i y2, .l y3, .l y4])) n from by funext x1 x2 x3; exact f125_0_lp_eq N K n x1 x2 x3]
theorem f125_0_ok (N : Nat) (hlp : LoopsOk Try.prog (E125 N).lp B125_0) (hΓ : CtxOk Try.prog (E125 N).Γ) : LoopOk Try.prog (mkL N125_0 f125_0_sh (f125_0_F N)) 0 B125_0 := by
  refine loopOk_of (E := E125 N) thOk hΓ mixed hlp ?_
  intro R ls K r h
  unfold f125_0_F at h
  split at h
  · exact ⟨N, by rw [f125_0_lp_eq]; exact h⟩
  · cases h

theorem lok125_0 (N : Nat) (hΓ : CtxOk Try.prog []) : LoopOk Try.prog (mkL N125_0 f125_0_sh (f125_0_F N)) 0 B125_0 := f125_0_ok N (loopsOk_of (l := []) (by kernel_rfl) trivial) hΓ
theorem f125_contract (N : Nat) (hΓ : CtxOk Try.prog []) : Contract Try.prog 125 { sig := S125, impl := fun _ ds k => call (E125 N) S125 37 B125 R125 ds k } :=
  call_contract (E := E125 N) thOk hΓ mixed ok125.look ok125.body ok125.n ok125.rv ok125.name rfl (by decide) (loopsOk_of (l := [(0, B125_0)]) (by kernel_rfl) (allOk_cons (L := mkL N125_0 f125_0_sh (f125_0_F N)) rfl (lok125_0 N hΓ) trivial))
theorem f125_raw_eq {R : Type} (N : Nat) (e : List Int) (k : List DV → Option R) : call (E125 N) S125 37 B125 R125 [.lst .u8 1 e] k = f125_raw N e k := by kernel_rfl
end Go.Proofs.Ytcgolglcjfknpaa

/- Digits by school: differences with a borrow, carries. Plain numbers, no program. -/
namespace Go.Eng

theorem getD_mid {α : Type} {A B : List α} {x d : α} {i : Nat} (h : A.length = i) : (A ++ x :: B).getD i d = x := by
  subst h
  simp [List.getD_eq_getElem?_getD]
theorem set_mid {α : Type} {A B : List α} {x y : α} {i : Nat} (h : A.length = i) : (A ++ x :: B).set i y = A ++ y :: B := by
  subst h
  simp

theorem valB_cons (b x : Nat) (l : List Nat) : valB b (x :: l) = x + b * valB b l := rfl

/-- a difference, with a borrow -/
def subG : List Nat → List Nat → Nat → List Nat × Nat
  | x :: l, q :: m, b => ((x + 65536 - q - b) % 65536 :: (subG l m (1 - (x + 65536 - q - b) / 65536)).1, (subG l m (1 - (x + 65536 - q - b) / 65536)).2)
  | [], _, b => ([], b)
  | _ :: _, [], b => ([], b)

theorem subG_spec : ∀ (l m : List Nat) (b : Nat), l.length = m.length → (∀ x ∈ l, x < 65536) → (∀ x ∈ m, x < 65536) → b ≤ 1 →
    (subG l m b).1.length = l.length ∧ (∀ x ∈ (subG l m b).1, x < 65536) ∧ (subG l m b).2 ≤ 1 ∧ valB 65536 (subG l m b).1 + valB 65536 m + b = valB 65536 l + 65536 ^ l.length * (subG l m b).2
  | [], [], b, _, _, _, hb => by simp [subG, valB, hb]
  | [], _ :: _, _, h, _, _, _ => by simp at h
  | _ :: _, [], _, h, _, _, _ => by simp at h
  | x :: l, q :: m, b, h, hl, hm, hb => by
    have hx := hl x (.head _)
    have hq := hm q (.head _)
    obtain ⟨h1, h2, h3, h4⟩ := subG_spec l m (1 - (x + 65536 - q - b) / 65536) (by simpa using h) (fun y hy => hl y (.tail _ hy)) (fun y hy => hm y (.tail _ hy)) (by omega)
    simp only [subG]
    refine ⟨by simp [h1], ?_, h3, ?_⟩
    · intro y hy
      rcases List.mem_cons.1 hy with rfl | hy
      · exact Nat.mod_lt _ (by decide)
      · exact h2 y hy
    · simp only [valB_cons, List.length_cons, Nat.pow_succ]
      generalize valB 65536 (subG l m (1 - (x + 65536 - q - b) / 65536)).1 = R at *
      generalize (subG l m (1 - (x + 65536 - q - b) / 65536)).2 = c at *
      generalize valB 65536 l = L at *
      generalize valB 65536 m = M at *
      rw [Nat.mul_comm (65536 ^ l.length) 65536, Nat.mul_assoc]
      generalize 65536 ^ l.length * c = T at *
      omega

/-- carries -/
def normG : List Nat → Nat → List Nat × Nat
  | [], c => ([], c)
  | x :: l, c => ((x + c) % 65536 :: (normG l ((x + c) / 65536)).1, (normG l ((x + c) / 65536)).2)

theorem normG_spec : ∀ (l : List Nat) (c : Nat), (normG l c).1.length = l.length ∧ (∀ x ∈ (normG l c).1, x < 65536) ∧ valB 65536 (normG l c).1 + 65536 ^ l.length * (normG l c).2 = valB 65536 l + c
  | [], c => by simp [normG, valB]
  | x :: l, c => by
    obtain ⟨h1, h2, h3⟩ := normG_spec l ((x + c) / 65536)
    simp only [normG]
    refine ⟨by simp [h1], ?_, ?_⟩
    · intro y hy
      rcases List.mem_cons.1 hy with rfl | hy
      · exact Nat.mod_lt _ (by decide)
      · exact h2 y hy
    · simp only [valB_cons, List.length_cons, Nat.pow_succ]
      generalize valB 65536 (normG l ((x + c) / 65536)).1 = R at *
      generalize (normG l ((x + c) / 65536)).2 = d at *
      generalize valB 65536 l = L at *
      rw [Nat.mul_comm (65536 ^ l.length) 65536, Nat.mul_assoc]
      generalize 65536 ^ l.length * d = T at *
      omega

theorem normG_carry : ∀ (l : List Nat) (c : Nat), (∀ x ∈ l, x < 2 ^ 46) → c < 2 ^ 46 → l ≠ [] → (normG l c).2 < 2 ^ 31
  | [], c, _, _, h => absurd rfl h
  | [x], c, hl, hc, _ => by
    have := hl x (.head _)
    simp only [normG]
    omega
  | x :: y :: l, c, hl, hc, _ => by
    have := hl x (.head _)
    show (normG (y :: l) ((x + c) / 65536)).2 < 2 ^ 31
    exact normG_carry (y :: l) _ (fun z hz => hl z (.tail _ hz)) (by omega) (by simp)

/-- one turn: carries; what comes out at the end comes in again, 38 times -/
def turnG (l : List Nat) : List Nat := match (normG l 0).1 with
  | [] => []
  | x :: r => (x + 38 * (normG l 0).2) :: r

theorem turnG_val {l : List Nat} (h : l ≠ []) : valB 65536 (turnG l) + 65536 ^ l.length * (normG l 0).2 = valB 65536 l + 38 * (normG l 0).2 := by
  obtain ⟨h1, _, h3⟩ := normG_spec l 0
  unfold turnG
  cases hn : (normG l 0).1 with
  | nil => rw [hn] at h1; simp at h1; exact absurd h1.symm (fun e => h (List.eq_nil_of_length_eq_zero e.symm.symm))
  | cons x r =>
    rw [hn] at h3
    simp only [valB_cons] at *
    omega
theorem turnG_length (l : List Nat) : (turnG l).length = l.length := by
  obtain ⟨h1, _⟩ := normG_spec l 0
  unfold turnG
  cases hn : (normG l 0).1 with
  | nil => rw [hn] at h1; simpa using h1
  | cons x r => rw [hn] at h1; simpa using h1
theorem turnG_lt {l : List Nat} (hl : ∀ x ∈ l, x < 2 ^ 46) : ∀ x ∈ turnG l, x < 2 ^ 46 := by
  obtain ⟨h1, h2, _⟩ := normG_spec l 0
  unfold turnG
  cases hn : (normG l 0).1 with
  | nil => simp
  | cons x r =>
    rw [hn] at h1 h2
    have hc := normG_carry l 0 hl (by decide) (fun e => by rw [e] at h1; simp at h1)
    intro y hy
    rcases List.mem_cons.1 hy with rfl | hy
    · have := h2 x (.head _); omega
    · have := h2 y (.tail _ hy); omega
/-- what is small enough is only put in order -/
theorem turnG_ok {l : List Nat} (hl : valB 65536 l < 65536 ^ l.length) (hn : l ≠ []) : valB 65536 (turnG l) = valB 65536 l ∧ ∀ x ∈ turnG l, x < 65536 := by
  obtain ⟨h1, h2, h3⟩ := normG_spec l 0
  have hc : (normG l 0).2 = 0 := by
    cases hc : (normG l 0).2 with
    | zero => rfl
    | succ c =>
      rw [hc, Nat.mul_succ] at h3
      omega
  have hv := turnG_val hn
  rw [hc] at hv
  refine ⟨by omega, ?_⟩
  unfold turnG
  cases hn : (normG l 0).1 with
  | nil => simp
  | cons x r =>
    rw [hn] at h2
    intro y hy
    rw [hc] at hy
    exact h2 y (by simpa using hy)

end Go.Eng

/- The document's numbers, sixteen digits: at least p, less p. -/
namespace Go.Proofs.Ytcgolglcjfknpaa
open Go Go.Eng
set_option maxRecDepth 100000
set_option linter.unusedVariables false

def pDl : List Nat := digs 65536 16 p25519
theorem pD_get : ∀ i : Nat, i < 16 → pD (i : Int) = ((pDl.getD i 0 : Nat) : Int) := by decide
theorem pDl_len : pDl.length = 16 := digs_length _ _ _
theorem pDl_lt : ∀ x ∈ pDl, x < 65536 := digs_lt (by decide)
theorem pDl_val : valB 65536 pDl = p25519 := by decide
theorem pDl_split {i : Nat} (hi : i < 16) : pDl.drop i = pDl.getD i 0 :: pDl.drop (i + 1) := by
  rw [List.getD_eq_getElem?_getD, List.getElem?_eq_getElem (by rw [pDl_len]; exact hi), Option.getD_some]
  exact List.drop_eq_getElem_cons _
theorem pDl_getlt (i : Nat) : pDl.getD i 0 < 65536 := nats_digs_bound (by decide) i
theorem ngetD {A B : List Nat} {x : Nat} : (nats (A ++ x :: B)).getD (mulE (Int.toNat (A.length : Int)) 1) 0 = (x : Int) := by
  rw [show mulE (Int.toNat (A.length : Int)) 1 = A.length from rfl, nats_getD, getD_mid rfl]
theorem nset {A B : List Nat} {x : Nat} (y : Nat) : (nats (A ++ x :: B)).set (mulE (Int.toNat (A.length : Int)) 1) (y : Int) = nats (A ++ y :: B) := by
  rw [show mulE (Int.toNat (A.length : Int)) 1 = A.length from rfl, nats_set, set_mid rfl]
theorem app_cons {α : Type} (A B : List α) (y : α) : A ++ y :: B = (A ++ [y]) ++ B := by simp
theorem app_len {α : Type} (A : List α) (y : α) : (A ++ [y]).length = A.length + 1 := by simp

theorem f130_in {R : Type} (N : Nat) (k1 : Bool → Int → Int → List Int → List Int → Option R) (z : List Int) :
    ∀ (B A : List Nat) (b : Nat), A.length + B.length = 16 → (∀ x ∈ B, x < 65536) → b ≤ 1 → ∀ fuel, B.length < fuel →
      f130_0_lp N k1 fuel (b : Int) (A.length : Int) (nats (A ++ B)) z = k1 false ((subG B (pDl.drop A.length) b).2 : Int) 16 (nats (A ++ (subG B (pDl.drop A.length) b).1)) z := by
  intro B
  induction B with
  | nil =>
    intro A b hA _ hb fuel hf
    obtain ⟨f, rfl⟩ : ∃ f, fuel = f + 1 := ⟨fuel - 1, by omega⟩
    have hl : A.length = 16 := by simpa using hA
    show f130_0_st N (f130_0_lp N k1 f) k1 _ _ _ _ = _
    unfold f130_0_st
    rw [hl]
    rfl
  | cons x B ih =>
    intro A b hA hB hb fuel hf
    obtain ⟨f, rfl⟩ : ∃ f, fuel = f + 1 := ⟨fuel - 1, by omega⟩
    rw [List.length_cons] at hA hf
    have hi : A.length < 16 := by omega
    have hx := hB x (.head _)
    have hq := pDl_getlt A.length
    show f130_0_st N (f130_0_lp N k1 f) k1 _ _ _ _ = _
    unfold f130_0_st
    rw [decide_eq_true (show (A.length : Int) < 16 by omega), decide_eq_true (show 0 ≤ (A.length : Int) by omega), cond_true, Bool.and_self, cond_true, cond_true]
    dsimp only
    rw [ngetD, pD_get _ hi, pDl_split hi]
    generalize pDl.getD A.length 0 = q at hq
    rw [show IntKind.u64.wrap ((x : Int) + 65536) = ((x + 65536 : Nat) : Int) from w64 (n := x + 65536) (by omega)]
    rw [show ((x + 65536 : Nat) : Int) - (q : Int) = ((x + 65536 - q : Nat) : Int) by omega, w64 (n := x + 65536 - q) (by omega)]
    rw [show ((x + 65536 - q : Nat) : Int) - (b : Int) = ((x + 65536 - q - b : Nat) : Int) by omega, w64 (n := x + 65536 - q - b) (by omega)]
    have hv : x + 65536 - q - b < 131072 := by omega
    simp only [subG]
    generalize x + 65536 - q - b = v at hv
    rw [show ((v : Int).tdiv 65536) = ((v / 65536 : Nat) : Int) from rfl, w64 (n := v / 65536) (by omega), show (1 : Int) - ((v / 65536 : Nat) : Int) = ((1 - v / 65536 : Nat) : Int) by omega, w64 (n := 1 - v / 65536) (by omega)]
    rw [show ((v : Int).tmod 65536) = ((v % 65536 : Nat) : Int) from rfl, nset, wrapI (a := (A.length : Int) + 1) (by omega) (by omega)]
    have := ih (A ++ [v % 65536]) (1 - v / 65536) (by rw [app_len]; omega) (fun y hy => hB y (.tail _ hy)) (by omega) f (by omega)
    rw [app_len, ← app_cons, show ((A.length + 1 : Nat) : Int) = (A.length : Int) + 1 from rfl, ← app_cons] at this
    exact this

/-! ### sixteen digits -/
def okD (x : List Int) : Bool := decide (x.length = 16) && x.all (fun b => decide (0 ≤ b) && decide (b < 65536))
def numD (x : List Int) : Nat := valB 65536 (x.map Int.toNat)
theorem okD_of {x : List Int} (h : okD x = true) : ∃ l : List Nat, x = nats l ∧ l.length = 16 ∧ ∀ b ∈ l, b < 65536 := by
  unfold okD at h
  rw [Bool.and_eq_true, List.all_eq_true] at h
  obtain ⟨h1, h2⟩ := h
  have h3 : ∀ b ∈ x, 0 ≤ b ∧ b < 65536 := fun b hb => by
    have := h2 b hb
    rw [Bool.and_eq_true] at this
    exact ⟨of_decide_eq_true this.1, of_decide_eq_true this.2⟩
  obtain ⟨l, rfl⟩ := nats_of (xs := x) fun b hb => (h3 b hb).1
  exact ⟨l, rfl, by rw [← nats_length]; exact of_decide_eq_true h1, fun b hb => Int.ofNat_lt.mp (h3 b (List.mem_map.mpr ⟨b, hb, rfl⟩)).2⟩
theorem okD_nats {l : List Nat} (hl : l.length = 16) (h : ∀ b ∈ l, b < 65536) : okD (nats l) = true := by
  unfold okD
  rw [nats_length, decide_eq_true hl, Bool.true_and, List.all_eq_true]
  intro b hb
  unfold nats at hb
  obtain ⟨n, hn, rfl⟩ := List.mem_map.mp hb
  have := h n hn
  rw [Bool.and_eq_true]
  exact ⟨decide_eq_true (Int.natCast_nonneg n), decide_eq_true (Int.ofNat_lt.mpr this)⟩
theorem numD_nats (l : List Nat) : numD (nats l) = valB 65536 l := by unfold numD; rw [nats_toNat]
/-- the sixteen digits of a number -/
noncomputable def refN : Nat → List Int := (stk fun v => nats (digs 65536 16 v)).1
theorem refN_def (v : Nat) : refN v = nats (digs 65536 16 v) := congrFun (stk fun v => nats (digs 65536 16 v)).2 v
theorem okD_refN (v : Nat) : okD (refN v) = true := by rw [refN_def]; exact okD_nats (digs_length _ _ _) (digs_lt (by decide))
theorem numD_refN {v : Nat} (h : v < 2 ^ 256) : numD (refN v) = v := by
  rw [refN_def, numD_nats, digs_val, Nat.mod_eq_of_lt (Nat.lt_of_lt_of_le h (by decide))]
theorem numD_lt {x : List Int} (h : okD x = true) : numD x < 2 ^ 256 := by
  obtain ⟨l, rfl, hl, hb⟩ := okD_of h
  rw [numD_nats]
  have := valB_lt (b := 65536) (by decide) hb
  rw [hl] at this
  exact Nat.lt_of_lt_of_le this (by decide)
theorem nats_refN {l : List Nat} (hl : l.length = 16) (h : ∀ b ∈ l, b < 65536) : nats l = refN (valB 65536 l) := by
  rw [refN_def, ← hl, digs_of (by decide) h]
theorem refN_numD {x : List Int} (h : okD x = true) : refN (numD x) = x := by
  obtain ⟨l, rfl, hl, hb⟩ := okD_of h
  rw [numD_nats, ← nats_refN hl hb]
theorem refN_inj {a b : Nat} (ha : a < 2 ^ 256) (hb : b < 2 ^ 256) : (refN a = refN b) = (a = b) := by
  refine propext ⟨fun h => ?_, fun h => by rw [h]⟩
  have := congrArg numD h
  rwa [numD_refN ha, numD_refN hb] at this

/-! ### at least p -/
theorem cmp_aux {P a b x q S : Nat} (ha : a < P) (hb : b < P) (h : x ≠ q) : decide (b + P * (q + S) ≤ a + P * (x + S)) = decide (x > q) := by
  refine decide_eq_decide.mpr ⟨fun h1 => ?_, fun h1 => ?_⟩
  · apply Nat.lt_of_not_le
    intro h2
    have : P * (x + S + 1) ≤ P * (q + S) := Nat.mul_le_mul_left P (by omega)
    rw [Nat.mul_add, Nat.mul_one] at this
    omega
  · have : P * (q + S + 1) ≤ P * (x + S) := Nat.mul_le_mul_left P (by omega)
    rw [Nat.mul_add, Nat.mul_one] at this
    omega
theorem val_split (l : List Nat) {m : Nat} (h : m < l.length) : valB 65536 l = valB 65536 (l.take m) + 65536 ^ m * (l.getD m 0 + 65536 * valB 65536 (l.drop (m + 1))) := by
  conv => lhs; rw [← List.take_append_drop m l]
  rw [valB_append, List.length_take, Nat.min_eq_left (by omega), List.drop_eq_getElem_cons h, valB_cons, List.getD_eq_getElem?_getD, List.getElem?_eq_getElem h]; rfl
theorem take_val_lt {l : List Nat} {m : Nat} (hm : m ≤ l.length) (h : ∀ x ∈ l, x < 65536) : valB 65536 (l.take m) < 65536 ^ m := by
  have := valB_lt (b := 65536) (by decide) (l := l.take m) fun x hx => h x (List.mem_of_mem_take hx)
  rwa [List.length_take, Nat.min_eq_left hm] at this
theorem f129_in {R : Type} (N : Nat) (g : Bool → Option R) {d : List Nat} (hl : d.length = 16) (hd : ∀ x ∈ d, x < 65536) :
    ∀ m : Nat, m ≤ 16 → d.drop m = pDl.drop m → ∀ fuel, m < fuel → f129_0_lp N (fun w _ _ _ _ => g w) (fun _ _ _ => g true) fuel ((m : Int) - 1) (nats d) = g (decide (p25519 ≤ valB 65536 d)) := by
  intro m
  induction m with
  | zero =>
    intro _ he fuel hf
    obtain ⟨f, rfl⟩ : ∃ f, fuel = f + 1 := ⟨fuel - 1, by omega⟩
    rw [List.drop_zero, List.drop_zero] at he
    rw [he, pDl_val, decide_eq_true (Nat.le_refl _)]
    rfl
  | succ m ih =>
    intro hm he fuel hf
    obtain ⟨f, rfl⟩ : ∃ f, fuel = f + 1 := ⟨fuel - 1, by omega⟩
    show f129_0_st N (f129_0_lp N _ _ f) _ _ _ _ = _
    rw [show ((m + 1 : Nat) : Int) - 1 = (m : Int) by omega]
    unfold f129_0_st
    rw [decide_eq_true (show (m : Int) ≥ 0 by omega), decide_eq_true (show (m : Int) < 16 by omega)]
    simp only [Bool.and_self, cond_true]
    rw [show (nats d).getD (mulE (Int.toNat (m : Int)) 1) 0 = ((d.getD m 0 : Nat) : Int) from nats_getD d m, pD_get m (by omega)]
    have hs := val_split d (m := m) (by omega)
    have hp := val_split pDl (m := m) (by rw [pDl_len]; omega)
    by_cases h : d.getD m 0 = pDl.getD m 0
    · rw [h, show ((((pDl.getD m 0 : Nat) : Int)) != ((pDl.getD m 0 : Nat) : Int)) = false by simp, cond_false, wrapI (by omega) (by omega)]
      refine ih (by omega) ?_ f (by omega)
      rw [pDl_split (show m < 16 by omega), List.drop_eq_getElem_cons (show m < d.length by omega), he, ← h, List.getD_eq_getElem?_getD, List.getElem?_eq_getElem (show m < d.length by omega), Option.getD_some]
    · rw [show ((((d.getD m 0 : Nat) : Int)) != ((pDl.getD m 0 : Nat) : Int)) = true by rw [bne_iff_ne]; omega, cond_true]
      refine congrArg g ?_
      rw [hs, ← pDl_val, hp, he, cmp_aux (take_val_lt (by omega) hd) (take_val_lt (by rw [pDl_len]; omega) pDl_lt) h]
      exact decide_eq_decide.mpr (by omega)
noncomputable def I129 : (R : Type) → List DV → (List DV → Option R) → Option R := fun _ ds k => match ds with
  | [.v (.one (.ints .u64 16 x))] => bif okD x then k [.v (.one (.bool (decide (p25519 ≤ numD x))))] else none
  | _ => none
theorem c129 : Contract Try.prog 129 { sig := S129, impl := I129 } := by
  refine Contract.refine fun R ds k r h => ⟨_, f129_contract 17 HA_ok, ?_⟩
  unfold I129 at h
  split at h
  · rename_i x
    rcases hc : okD x with _ | _
    · rw [hc] at h; cases h
    · rw [hc, cond_true] at h
      rw [f129_raw_eq]
      obtain ⟨l, rfl, hl, hb⟩ := okD_of hc
      rw [numD_nats] at h
      rw [← h]
      exact f129_in 17 (fun b => k [.v (.one (.bool b))]) hl hb 16 (Nat.le_refl _) (by rw [List.drop_of_length_le (by omega), List.drop_of_length_le (by rw [pDl_len]; omega)]) 17 (by decide)
  · cases h

/-! ### less p -/
theorem sub_fit {l m : List Nat} (h : l.length = m.length) (hl : ∀ x ∈ l, x < 65536) (hm : ∀ x ∈ m, x < 65536) (hle : valB 65536 m ≤ valB 65536 l) :
    (subG l m 0).1.length = l.length ∧ (∀ x ∈ (subG l m 0).1, x < 65536) ∧ valB 65536 (subG l m 0).1 = valB 65536 l - valB 65536 m := by
  obtain ⟨h1, h2, h3, h4⟩ := subG_spec l m 0 h hl hm (by decide)
  refine ⟨h1, h2, ?_⟩
  have hr := valB_lt (b := 65536) (by decide) h2
  rw [h1] at hr
  have : (subG l m 0).2 = 0 := by
    cases hc : (subG l m 0).2 with
    | zero => rfl
    | succ c =>
      rw [hc, Nat.mul_succ] at h4
      omega
  rw [this, Nat.mul_zero] at h4
  omega
noncomputable def I130 : (R : Type) → List DV → (List DV → Option R) → Option R := fun _ ds k => match ds with
  | [.v (.one (.ints .u64 16 x))] => bif okD x && decide (p25519 ≤ numD x) then k [.v (.one (.ints .u64 16 (refN (numD x - p25519))))] else none
  | _ => none
theorem c130 : Contract Try.prog 130 { sig := S130, impl := I130 } := by
  refine Contract.refine fun R ds k r h => ⟨_, f130_contract 17 HA_ok, ?_⟩
  unfold I130 at h
  split at h
  · rename_i x
    rcases hc : okD x && decide (p25519 ≤ numD x) with _ | _
    · rw [hc] at h; cases h
    · rw [hc, cond_true] at h
      rw [Bool.and_eq_true, decide_eq_true_eq] at hc
      rw [f130_raw_eq]
      obtain ⟨l, rfl, hl, hb⟩ := okD_of hc.1
      have hle := hc.2
      rw [numD_nats] at h hle
      rw [← h]
      have := f130_in 17 (fun _ _ _ w _ => k [.v (.one (.ints .u64 16 w))]) (List.replicate 16 0) l [] 0 (by simpa using hl) hb (by decide) 17 (by omega)
      refine Eq.trans this ?_
      obtain ⟨g1, g2, g3⟩ := sub_fit (l := l) (m := pDl) (by rw [hl, pDl_len]) hb pDl_lt (by rw [pDl_val]; exact hle)
      show k [.v (.one (.ints .u64 16 (nats (subG l pDl 0).1)))] = _
      rw [nats_refN (by rw [g1, hl]) g2, g3, pDl_val]
  · cases h

/-! ### digits of bytes -/
theorem digs_add : ∀ (m n i x : Nat), n < 256 ^ i → i < 2 * m → x < 256 → digs 65536 m (n + x * 256 ^ i) = (digs 65536 m n).set (i / 2) ((digs 65536 m n).getD (i / 2) 0 + x * 256 ^ (i % 2))
  | 0, _, _, _, _, h, _ => by omega
  | m + 1, n, 0, x, hn, _, hx => by
    simp only [digs, List.set_cons_zero, List.getD_cons_zero, Nat.zero_div, Nat.zero_mod, Nat.pow_zero, Nat.mul_one] at *
    rw [show n = 0 by omega, Nat.zero_add, Nat.mod_eq_of_lt (show x < 65536 by omega), Nat.div_eq_of_lt (show x < 65536 by omega)]
  | m + 1, n, 1, x, hn, _, hx => by
    simp only [digs, List.set_cons_zero, List.getD_cons_zero, show (1 : Nat) / 2 = 0 from rfl, show (1 : Nat) % 2 = 1 from rfl, Nat.pow_one] at *
    rw [Nat.mod_eq_of_lt (show n + x * 256 < 65536 by omega), Nat.div_eq_of_lt (show n + x * 256 < 65536 by omega), Nat.mod_eq_of_lt (show n < 65536 by omega), Nat.div_eq_of_lt (show n < 65536 by omega)]
  | m + 1, n, i + 2, x, hn, hi, hx => by
    rw [show (i + 2) / 2 = i / 2 + 1 by omega, show (i + 2) % 2 = i % 2 by omega]
    have e : x * 256 ^ (i + 2) = x * 256 ^ i * 65536 := by rw [Nat.pow_succ, Nat.pow_succ, Nat.mul_assoc, Nat.mul_assoc]
    simp only [digs, List.set_cons_succ, List.getD_cons_succ]
    rw [e, Nat.add_mul_mod_self_right, Nat.add_mul_div_right _ _ (by decide)]
    rw [digs_add m (n / 65536) i x (by rw [Nat.pow_succ, Nat.pow_succ, Nat.mul_assoc] at hn; exact Nat.div_lt_of_lt_mul (by omega)) (by omega) hx]
theorem take_val (l : List Nat) {i : Nat} (h : i < l.length) : valB 256 (l.take (i + 1)) = valB 256 (l.take i) + l.getD i 0 * 256 ^ i := by
  rw [List.take_add_one, List.getElem?_eq_getElem h, Option.toList_some, valB_append, List.length_take, Nat.min_eq_left (by omega), List.getD_eq_getElem?_getD, List.getElem?_eq_getElem h, Option.getD_some]
  simp only [valB, Nat.mul_zero, Nat.add_zero]
  rw [Nat.mul_comm]
theorem f125_in {R : Type} (N : Nat) (k1 : Bool → Int → List Int → List Int → Option R) {l : List Nat} (hl : l.length ≤ 1000000) (hb : ∀ x ∈ l, x < 256) :
    ∀ j i : Nat, i + j = l.length → ∀ fuel, j < fuel → f125_0_lp N k1 fuel (i : Int) (nats l) (nats (digs 65536 ((l.length + 1) / 2) (valB 256 (l.take i)))) = k1 false (l.length : Int) (nats l) (nats (digs 65536 ((l.length + 1) / 2) (valB 256 l))) := by
  intro j
  induction j with
  | zero =>
    intro i hi fuel hf
    obtain ⟨f, rfl⟩ : ∃ f, fuel = f + 1 := ⟨fuel - 1, by omega⟩
    have : i = l.length := by omega
    subst this
    show f125_0_st N (f125_0_lp N k1 f) k1 _ _ _ = _
    unfold f125_0_st
    rw [show nI (rowLen 1 (nats l)) = (l.length : Int) from by show (((nats l).length : Nat) : Int) = _; rw [nats_length], decide_eq_false (by omega), cond_false, List.take_length]
  | succ j ih =>
    intro i hi fuel hf
    obtain ⟨f, rfl⟩ : ∃ f, fuel = f + 1 := ⟨fuel - 1, by omega⟩
    have hx : l.getD i 0 < 256 := by
      rw [List.getD_eq_getElem?_getD, List.getElem?_eq_getElem (by omega)]; exact hb _ (List.getElem_mem _)
    have hlen : i < l.length := by omega
    show f125_0_st N (f125_0_lp N k1 f) k1 _ _ _ = _
    unfold f125_0_st
    rw [show nI (rowLen 1 (nats l)) = (l.length : Int) from by show (((nats l).length : Nat) : Int) = _; rw [nats_length], show nI (rowLen 1 (nats (digs 65536 ((l.length + 1) / 2) (valB 256 (l.take i))))) = (((l.length + 1) / 2 : Nat) : Int) from by show (((nats _).length : Nat) : Int) = _; rw [nats_length, digs_length]]
    rw [show ((i : Int).tdiv 2) = ((i / 2 : Nat) : Int) from rfl, show ((i : Int).tmod 2) = ((i % 2 : Nat) : Int) from rfl]
    dsimp only
    rw [wrapI (a := ((i / 2 : Nat) : Int)) (by omega) (by omega), wrapI (a := 8 * ((i % 2 : Nat) : Int)) (by omega) (by omega), wrapI (a := (i : Int) + 1) (by omega) (by omega), show (8 * ((i % 2 : Nat) : Int)) = ((8 * (i % 2) : Nat) : Int) by omega, w64 (n := 8 * (i % 2)) (by omega)]
    rw [decide_eq_true (show (i : Int) < (l.length : Int) by omega), decide_eq_true (show 0 ≤ ((i / 2 : Nat) : Int) by omega), decide_eq_true (show ((i / 2 : Nat) : Int) < (((l.length + 1) / 2 : Nat) : Int) by omega), decide_eq_true (show 0 ≤ (i : Int) by omega), decide_eq_true (show 0 ≤ ((8 * (i % 2) : Nat) : Int) by omega)]
    simp only [Bool.and_self, cond_true]
    rw [show (nats l).getD (mulE (Int.toNat (i : Int)) 1) 0 = ((l.getD i 0 : Nat) : Int) from nats_getD l i, w64 (n := l.getD i 0) (by omega)]
    rw [show mulE (Int.toNat ((i / 2 : Nat) : Int)) 1 = i / 2 from rfl, nats_getD, shlN (k := .u64) rfl (m := 8 * (i % 2)) (show _ ≤ 64 by omega)]
    have hg : (digs 65536 ((l.length + 1) / 2) (valB 256 (l.take i))).getD (i / 2) 0 < 65536 := nats_digs_bound (by decide) _
    have hsh : l.getD i 0 * 2 ^ (8 * (i % 2)) % 2 ^ IntKind.u64.bits = l.getD i 0 * 256 ^ (i % 2) := by
      show l.getD i 0 * 2 ^ (8 * (i % 2)) % 18446744073709551616 = _
      rcases Nat.mod_two_eq_zero_or_one i with h | h <;> rw [h] <;> omega
    have hlt : l.getD i 0 * 256 ^ (i % 2) < 65536 := by
      rcases Nat.mod_two_eq_zero_or_one i with h | h <;> rw [h] <;> omega
    rw [hsh]
    rw [show (((digs 65536 ((l.length + 1) / 2) (valB 256 (l.take i))).getD (i / 2) 0 : Nat) : Int) + ((l.getD i 0 * 256 ^ (i % 2) : Nat) : Int) = (((digs 65536 ((l.length + 1) / 2) (valB 256 (l.take i))).getD (i / 2) 0 + l.getD i 0 * 256 ^ (i % 2) : Nat) : Int) from rfl, w64 (by omega), nats_set]
    have htl : valB 256 (l.take i) < 256 ^ i := by
      have := valB_lt (b := 256) (by decide) (l := l.take i) fun x hx => hb x (List.mem_of_mem_take hx)
      rwa [List.length_take, Nat.min_eq_left (by omega)] at this
    rw [← digs_add _ _ _ _ htl (by omega) hx, ← take_val l hlen]
    exact ih (i + 1) (by omega) f (by omega)
noncomputable def digL : List Int → List Int := (stk fun e => nats (digs 65536 ((e.length + 1) / 2) (numB e))).1
theorem digL_def (e : List Int) : digL e = nats (digs 65536 ((e.length + 1) / 2) (numB e)) := congrFun (stk fun e : List Int => nats (digs 65536 ((e.length + 1) / 2) (numB e))).2 e
noncomputable def I125 : (R : Type) → List DV → (List DV → Option R) → Option R := fun _ ds k => match ds with
  | [.lst .u8 1 e] => bif okE e && decide (e.length ≤ 1000000) then k [.lst .u64 1 (digL e)] else none
  | _ => none
theorem digs_zero (b : Nat) : ∀ m, digs b m 0 = List.replicate m 0
  | 0 => rfl
  | m + 1 => by rw [digs, Nat.zero_mod, Nat.zero_div, digs_zero b m]; rfl
theorem nats_zeros (m : Nat) : nats (List.replicate m 0) = zerosOf m := by unfold nats zerosOf; rw [List.map_replicate]; rfl
theorem c125 : Contract Try.prog 125 { sig := S125, impl := I125 } := by
  refine Contract.refine fun R ds k r h => ?_
  unfold I125 at h
  split at h
  · rename_i e
    rcases hc : okE e && decide (e.length ≤ 1000000) with _ | _
    · rw [hc] at h; cases h
    · rw [hc, cond_true] at h
      rw [Bool.and_eq_true, decide_eq_true_eq] at hc
      refine ⟨_, f125_contract (e.length + 1) ctxOk_nil, ?_⟩
      rw [f125_raw_eq]
      obtain ⟨_, l, rfl, hb⟩ := okE_of hc.1
      have hl := hc.2
      rw [nats_length] at hl
      rw [digL_def, numB_nats, nats_length] at h
      rw [← h]
      unfold f125_raw
      rw [show nI (rowLen 1 (nats l)) = (l.length : Int) from by show (((nats l).length : Nat) : Int) = _; rw [nats_length]]
      dsimp only
      rw [wrapI (a := (l.length : Int) + 1) (by omega) (by omega), show ((l.length : Int) + 1).tdiv 2 = (((l.length + 1) / 2 : Nat) : Int) from rfl, wrapI (by omega) (by omega)]
      rw [decide_eq_true (show 0 ≤ (((l.length + 1) / 2 : Nat) : Int) by omega), decide_eq_true (show (((l.length + 1) / 2 : Nat) : Int) ≤ (((l.length + 1) / 2 : Nat) : Int) by omega), decide_eq_true (show (((l.length + 1) / 2 : Nat) : Int) ≤ 281474976710656 by omega), decide_eq_true (show (((l.length + 1) / 2 : Nat) : Int) * 8 ≤ 281474976710656 by omega)]
      simp only [Bool.and_self, cond_true]
      have := f125_in ((nats l).length + 1) (fun _ _ _ w => k [.lst .u64 1 w]) hl hb l.length 0 (by omega) ((nats l).length + 1) (by rw [nats_length]; omega)
      rw [List.take_zero, show valB 256 ([] : List Nat) = 0 from rfl, digs_zero, nats_zeros] at this
      exact this
  · cases h
end Go.Proofs.Ytcgolglcjfknpaa

/- Context of the document's numbers. -/
namespace Go.Proofs.Ytcgolglcjfknpaa
open Go Go.Eng
set_option maxRecDepth 100000
noncomputable def HB : Ctx := [(128, { sig := S128, impl := I128 }), (129, { sig := S129, impl := I129 }), (130, { sig := S130, impl := I130 }), (125, { sig := S125, impl := I125 })]
theorem HB_ok : CtxOk Try.prog HB := ctxOk_cons ok128 rfl c128 (ctxOk_cons ok129 rfl c129 (ctxOk_cons ok130 rfl c130 (ctxOk_cons ok125 rfl c125 ctxOk_nil)))
end Go.Proofs.Ytcgolglcjfknpaa

/- What rime/rimeref01.mod comes to. MADE BY PROGRAM (wip/tools/mkfn.py, EngGen.lean). -/
namespace Go.Proofs.Ytcgolglcjfknpaa
open Go Go.Eng
set_option maxRecDepth 100000
set_option linter.unusedVariables false

def f124_2_sh : Shp := { n := 100, lo := 1, slots := [(0, .one (.fix (At.own 0))), (2, .one (.fix (At.ptr 2 0 Off.z 16))), (6, .one (.fix (At.ptr 6 0 Off.z 16))), (7, .one (.int IntKind.i64))], items := [(0, .view IntKind.u64 1), (2, .obj [.ints IntKind.u64 16]), (6, .obj [.ints IntKind.u64 16])] }
def f124_2_ex1 : Shp := { n := 100, lo := 1, slots := [(42, .one (.bool)), (0, .one (.fix (At.own 0))), (2, .one (.fix (At.ptr 2 0 Off.z 16))), (6, .one (.fix (At.ptr 6 0 Off.z 16))), (7, .one (.int IntKind.i64))], items := [(0, .view IntKind.u64 1), (2, .obj [.ints IntKind.u64 16]), (6, .obj [.ints IntKind.u64 16])] }
noncomputable def f124_2_st {R : Type} (N : Nat) (self : Int → List Int → List Int → List Int → Option R) (k1 : Bool → Int → List Int → List Int → List Int → Option R) (x1 : Int) (x2 : List Int) (x3 : List Int) (x4 : List Int) : Option R :=
 bif Decidable.decide (x1 < nI (rowLen 1 x2)) then
 bif Decidable.decide (x1 < 16) then
 bif Decidable.decide (0 ≤ x1) && Decidable.decide (x1 < 16) then
 bif Decidable.decide (0 ≤ x1) && Decidable.decide (x1 < nI (rowLen 1 x2)) then
 bif Decidable.decide (0 ≤ x1) && Decidable.decide (x1 < 16) then
 let v0 : Int := IntKind.i64.wrap (x1 + 1);
 let v1 : Int := IntKind.u64.wrap (x4.getD (mulE x1.toNat 1) 0 + x2.getD (mulE x1.toNat 1) 0);
 let v2 : List Int := x4.set (mulE x1.toNat 1) v1;
 self v0 x2 x3 v2
 else Option.none
 else Option.none
 else Option.none
 else
 let v3 : Int := IntKind.i64.wrap (x1 - 16);
 bif Decidable.decide (0 ≤ v3) && Decidable.decide (v3 < 16) then
 bif Decidable.decide (0 ≤ x1) && Decidable.decide (x1 < nI (rowLen 1 x2)) then
 bif Decidable.decide (0 ≤ v3) && Decidable.decide (v3 < 16) then
 let v4 : Int := IntKind.i64.wrap (x1 + 1);
 let v5 : Int := IntKind.u64.wrap (38 * x2.getD (mulE x1.toNat 1) 0);
 let v6 : Int := IntKind.u64.wrap (x4.getD (mulE v3.toNat 1) 0 + v5);
 let v7 : List Int := x4.set (mulE v3.toNat 1) v6;
 self v4 x2 x3 v7
 else Option.none
 else Option.none
 else Option.none
else k1 (Decidable.decide (x1 < nI (rowLen 1 x2))) x1 x2 x3 x4
noncomputable def f124_2_lp {R : Type} (N : Nat) (k1 : Bool → Int → List Int → List Int → List Int → Option R) : Nat → Int → List Int → List Int → List Int → Option R
 | 0, _, _, _, _ => none
 | n + 1, x1, x2, x3, x4 => f124_2_st N (f124_2_lp N k1 n) k1 x1 x2 x3 x4
noncomputable def f124_2_F (N : Nat) : (R : Type) → List Leaf → (X → AS → Option R) → Option R := fun _ ls K => match ls with
 | [.i x1, .l x2, .l x3, .l x4] => f124_2_lp N (fun y1 y2 y3 y4 y5 => K (X.normal) (fill f124_2_ex1 [.b y1, .i y2, .l y3, .l y4, .l y5])) N x1 x2 x3 x4
 | _ => none
def f124_6_sh : Shp := { n := 100, lo := 1, slots := [(2, .one (.fix (At.ptr 2 0 Off.z 16))), (6, .one (.fix (At.ptr 6 0 Off.z 16))), (8, .one (.int IntKind.i64)), (9, .one (.int IntKind.u64)), (10, .one (.int IntKind.i64))], items := [(2, .obj [.ints IntKind.u64 16]), (6, .obj [.ints IntKind.u64 16])] }
def f124_6_ex1 : Shp := { n := 100, lo := 1, slots := [(75, .one (.bool)), (2, .one (.fix (At.ptr 2 0 Off.z 16))), (6, .one (.fix (At.ptr 6 0 Off.z 16))), (8, .one (.int IntKind.i64)), (9, .one (.int IntKind.u64)), (10, .one (.int IntKind.i64))], items := [(2, .obj [.ints IntKind.u64 16]), (6, .obj [.ints IntKind.u64 16])] }
noncomputable def f124_6_st {R : Type} (N : Nat) (self : Int → Int → Int → List Int → List Int → Option R) (k1 : Bool → Int → Int → Int → List Int → List Int → Option R) (x1 : Int) (x2 : Int) (x3 : Int) (x4 : List Int) (x5 : List Int) : Option R :=
 bif Decidable.decide (x3 < 16) then
 bif Decidable.decide (0 ≤ x3) && Decidable.decide (x3 < 16) then
 bif Decidable.decide (0 ≤ x3) && Decidable.decide (x3 < 16) then
 let v0 : Int := IntKind.u64.wrap (x5.getD (mulE x3.toNat 1) 0 + x2);
 let v1 : Int := IntKind.u64.wrap (v0.tdiv 65536);
 let v2 : Int := IntKind.i64.wrap (x3 + 1);
 let v3 : List Int := x5.set (mulE x3.toNat 1) (v0.tmod 65536);
 self x1 v1 v2 x4 v3
 else Option.none
 else Option.none
else k1 (Decidable.decide (x3 < 16)) x1 x2 x3 x4 x5
noncomputable def f124_6_lp {R : Type} (N : Nat) (k1 : Bool → Int → Int → Int → List Int → List Int → Option R) : Nat → Int → Int → Int → List Int → List Int → Option R
 | 0, _, _, _, _, _ => none
 | n + 1, x1, x2, x3, x4, x5 => f124_6_st N (f124_6_lp N k1 n) k1 x1 x2 x3 x4 x5
noncomputable def f124_6_F (N : Nat) : (R : Type) → List Leaf → (X → AS → Option R) → Option R := fun _ ls K => match ls with
 | [.i x1, .i x2, .i x3, .l x4, .l x5] => f124_6_lp N (fun y1 y2 y3 y4 y5 y6 => K (X.normal) (fill f124_6_ex1 [.b y1, .i y2, .i y3, .i y4, .l y5, .l y6])) N x1 x2 x3 x4 x5
 | _ => none
def f124_4_sh : Shp := { n := 100, lo := 1, slots := [(2, .one (.fix (At.ptr 2 0 Off.z 16))), (6, .one (.fix (At.ptr 6 0 Off.z 16))), (8, .one (.int IntKind.i64))], items := [(2, .obj [.ints IntKind.u64 16]), (6, .obj [.ints IntKind.u64 16])] }
def f124_4_ex1 : Shp := { n := 100, lo := 1, slots := [(71, .one (.bool)), (2, .one (.fix (At.ptr 2 0 Off.z 16))), (6, .one (.fix (At.ptr 6 0 Off.z 16))), (8, .one (.int IntKind.i64))], items := [(2, .obj [.ints IntKind.u64 16]), (6, .obj [.ints IntKind.u64 16])] }
noncomputable def f124_4_st {R : Type} (N : Nat) (self : Int → List Int → List Int → Option R) (k1 : Bool → Int → List Int → List Int → Option R) (x1 : Int) (x2 : List Int) (x3 : List Int) : Option R :=
 bif Decidable.decide (x1 < 8) then
 f124_6_lp N
 (fun w0_1 w0_2 w0_3 w0_4 w0_5 w0_6 =>
 let v1 : Int := IntKind.i64.wrap (w0_2 + 1);
 let v2 : Int := IntKind.u64.wrap (38 * w0_3);
 let v3 : Int := IntKind.u64.wrap (w0_6.getD (mulE (Int.toNat 0) 1) 0 + v2);
 let v4 : List Int := w0_6.set (mulE (Int.toNat 0) 1) v3;
 self v1 w0_5 v4)
 N x1 0 0 x2 x3
else k1 (Decidable.decide (x1 < 8)) x1 x2 x3
noncomputable def f124_4_lp {R : Type} (N : Nat) (k1 : Bool → Int → List Int → List Int → Option R) : Nat → Int → List Int → List Int → Option R
 | 0, _, _, _ => none
 | n + 1, x1, x2, x3 => f124_4_st N (f124_4_lp N k1 n) k1 x1 x2 x3
noncomputable def f124_4_F (N : Nat) : (R : Type) → List Leaf → (X → AS → Option R) → Option R := fun _ ls K => match ls with
 | [.i x1, .l x2, .l x3] => f124_4_lp N (fun y1 y2 y3 y4 => K (X.normal) (fill f124_4_ex1 [.b y1, .i y2, .l y3, .l y4])) N x1 x2 x3
 | _ => none
def f124_8_sh : Shp := { n := 100, lo := 1, slots := [(2, .one (.fix (At.ptr 2 0 Off.z 16))), (6, .one (.fix (At.ptr 6 0 Off.z 16)))], items := [(2, .obj [.ints IntKind.u64 16]), (6, .obj [.ints IntKind.u64 16])] }
def f124_8_ex1 : Shp := { n := 100, lo := 1, slots := [(96, .one (.bool)), (2, .one (.fix (At.ptr 2 0 Off.z 16))), (6, .one (.fix (At.ptr 6 0 Off.z 16)))], items := [(2, .obj [.ints IntKind.u64 16]), (6, .obj [.ints IntKind.u64 16])] }
noncomputable def f124_8_st {R : Type} (N : Nat) (self : List Int → List Int → Option R) (k1 : Bool → List Int → List Int → Option R) (x1 : List Int) (x2 : List Int) : Option R :=
 bif okD x2 then bif Decidable.decide (p25519 ≤ numD x2) then bif okD x2 && Decidable.decide (p25519 ≤ numD x2) then self x1 (refN (numD x2 - p25519)) else Option.none else k1 (Decidable.decide (p25519 ≤ numD x2)) x1 x2 else Option.none
noncomputable def f124_8_lp {R : Type} (N : Nat) (k1 : Bool → List Int → List Int → Option R) : Nat → List Int → List Int → Option R
 | 0, _, _ => none
 | n + 1, x1, x2 => f124_8_st N (f124_8_lp N k1 n) k1 x1 x2
noncomputable def f124_8_F (N : Nat) : (R : Type) → List Leaf → (X → AS → Option R) → Option R := fun _ ls K => match ls with
 | [.l x1, .l x2] => f124_8_lp N (fun y1 y2 y3 => K (X.normal) (fill f124_8_ex1 [.b y1, .l y2, .l y3])) N x1 x2
 | _ => none
noncomputable def f124_raw {R : Type} (N : Nat) (l : List Int) (k : List DV → Option R) : Option R :=
 bif Decidable.decide (nI (rowLen 1 l) > 32) then bif loOk (Option.some 16) (hiInt Option.none (rowLen 1 l)) then Option.none else Option.none else f124_2_lp N (fun w0_1 w0_2 w0_3 w0_4 w0_5 => f124_4_lp N (fun w1_1 w1_2 w1_3 w1_4 => f124_8_lp N (fun w2_1 w2_2 w2_3 => k [DV.v (SV.one (At.ints IntKind.u64 16 w2_3))]) N w1_3 w1_4) N 0 w0_4 w0_5) N 0 l (List.replicate 16 0) (List.replicate 16 0)


noncomputable def E124 (N : Nat) : Env := { Θ := Th, Γ := HB, K := K124, ν := N124, fuel := 0, lp := [(2, mkL N124_2 f124_2_sh (f124_2_F N)), (4, mkL N124_4 f124_4_sh (f124_4_F N)), (6, mkL N124_6 f124_6_sh (f124_6_F N)), (8, mkL N124_8 f124_8_sh (f124_8_F N))] }

theorem f124_2_st_eq {R : Type} (N : Nat) (K : X → AS → Option R) (n : Nat) (x1 : Int) (x2 : List Int) (x3 : List Int) (x4 : List Int) : roundsOf (E124 N) N124_2 2 B124_2 K (n + 1) (fill f124_2_sh [.i x1, .l x2, .l x3, .l x4]) = f124_2_st N (fun x1 x2 x3 x4 => roundsOf (E124 N) N124_2 2 B124_2 K n (fill f124_2_sh [.i x1, .l x2, .l x3, .l x4])) (fun y1 y2 y3 y4 y5 => K (X.normal) (fill f124_2_ex1 [.b y1, .i y2, .l y3, .l y4, .l y5])) x1 x2 x3 x4 := by kernel_rfl
theorem f124_2_lp_eq {R : Type} (N : Nat) (K : X → AS → Option R) : ∀ (n : Nat) (x1 : Int) (x2 : List Int) (x3 : List Int) (x4 : List Int), roundsOf (E124 N) N124_2 2 B124_2 K n (fill f124_2_sh [.i x1, .l x2, .l x3, .l x4]) = f124_2_lp N (fun y1 y2 y3 y4 y5 => K (X.normal) (fill f124_2_ex1 [.b y1, .i y2, .l y3, .l y4, .l y5])) n x1 x2 x3 x4
  | 0, _, _, _, _ => rfl
  | n + 1, x1, x2, x3, x4 => by
    rw [f124_2_st_eq, f124_2_lp, show (fun x1 x2 x3 x4 => roundsOf (E124 N) N124_2 2 B124_2 K n (fill f124_2_sh [.i x1, .l x2, .l x3, .l x4])) = f124_2_lp N (fun y1 y2 y3 y4 y5 => K (X.normal) (fill f124_2_ex1 [.b y1, .i y2, .l y3, .l y4, .l y5])) n from by funext x1 x2 x3 x4; exact f124_2_lp_eq N K n x1 x2 x3 x4]
theorem f124_2_ok (N : Nat) (hlp : LoopsOk Try.prog (E124 N).lp B124_2) (hΓ : CtxOk Try.prog (E124 N).Γ) : LoopOk Try.prog (mkL N124_2 f124_2_sh (f124_2_F N)) 2 B124_2 := by
  refine loopOk_of (E := E124 N) thOk hΓ mixed hlp ?_
  intro R ls K r h
  unfold f124_2_F at h
  split at h
  · exact ⟨N, by rw [f124_2_lp_eq]; exact h⟩
  · cases h
theorem f124_6_st_eq {R : Type} (N : Nat) (K : X → AS → Option R) (n : Nat) (x1 : Int) (x2 : Int) (x3 : Int) (x4 : List Int) (x5 : List Int) : roundsOf (E124 N) N124_6 6 B124_6 K (n + 1) (fill f124_6_sh [.i x1, .i x2, .i x3, .l x4, .l x5]) = f124_6_st N (fun x1 x2 x3 x4 x5 => roundsOf (E124 N) N124_6 6 B124_6 K n (fill f124_6_sh [.i x1, .i x2, .i x3, .l x4, .l x5])) (fun y1 y2 y3 y4 y5 y6 => K (X.normal) (fill f124_6_ex1 [.b y1, .i y2, .i y3, .i y4, .l y5, .l y6])) x1 x2 x3 x4 x5 := by kernel_rfl
theorem f124_6_lp_eq {R : Type} (N : Nat) (K : X → AS → Option R) : ∀ (n : Nat) (x1 : Int) (x2 : Int) (x3 : Int) (x4 : List Int) (x5 : List Int), roundsOf (E124 N) N124_6 6 B124_6 K n (fill f124_6_sh [.i x1, .i x2, .i x3, .l x4, .l x5]) = f124_6_lp N (fun y1 y2 y3 y4 y5 y6 => K (X.normal) (fill f124_6_ex1 [.b y1, .i y2, .i y3, .i y4, .l y5, .l y6])) n x1 x2 x3 x4 x5
  | 0, _, _, _, _, _ => rfl
  | n + 1, x1, x2, x3, x4, x5 => by
    rw [f124_6_st_eq, f124_6_lp, show (fun x1 x2 x3 x4 x5 => roundsOf (E124 N) N124_6 6 B124_6 K n (fill f124_6_sh [.i x1, .i x2, .i x3, .l x4, .l x5])) = f124_6_lp N (fun y1 y2 y3 y4 y5 y6 => K (X.normal) (fill f124_6_ex1 [.b y1, .i y2, .i y3, .i y4, .l y5, .l y6])) n from by funext x1 x2 x3 x4 x5; exact f124_6_lp_eq N K n x1 x2 x3 x4 x5]
theorem f124_6_ok (N : Nat) (hlp : LoopsOk Try.prog (E124 N).lp B124_6) (hΓ : CtxOk Try.prog (E124 N).Γ) : LoopOk Try.prog (mkL N124_6 f124_6_sh (f124_6_F N)) 6 B124_6 := by
  refine loopOk_of (E := E124 N) thOk hΓ mixed hlp ?_
  intro R ls K r h
  unfold f124_6_F at h
  split at h
  · exact ⟨N, by rw [f124_6_lp_eq]; exact h⟩
  · cases h
theorem f124_4_st_eq {R : Type} (N : Nat) (K : X → AS → Option R) (n : Nat) (x1 : Int) (x2 : List Int) (x3 : List Int) : roundsOf (E124 N) N124_4 4 B124_4 K (n + 1) (fill f124_4_sh [.i x1, .l x2, .l x3]) = f124_4_st N (fun x1 x2 x3 => roundsOf (E124 N) N124_4 4 B124_4 K n (fill f124_4_sh [.i x1, .l x2, .l x3])) (fun y1 y2 y3 y4 => K (X.normal) (fill f124_4_ex1 [.b y1, .i y2, .l y3, .l y4])) x1 x2 x3 := by kernel_rfl
theorem f124_4_lp_eq {R : Type} (N : Nat) (K : X → AS → Option R) : ∀ (n : Nat) (x1 : Int) (x2 : List Int) (x3 : List Int), roundsOf (E124 N) N124_4 4 B124_4 K n (fill f124_4_sh [.i x1, .l x2, .l x3]) = f124_4_lp N (fun y1 y2 y3 y4 => K (X.normal) (fill f124_4_ex1 [.b y1, .i y2, .l y3, .l y4])) n x1 x2 x3
  | 0, _, _, _ => rfl
  | n + 1, x1, x2, x3 => by
    rw [f124_4_st_eq, f124_4_lp, show (fun x1 x2 x3 => roundsOf (E124 N) N124_4 4 B124_4 K n (fill f124_4_sh [.i x1, .l x2, .l x3])) = f124_4_lp N (fun y1 y2 y3 y4 => K (X.normal) (fill f124_4_ex1 [.b y1, .i y2, .l y3, .l y4])) n from by funext x1 x2 x3; exact f124_4_lp_eq N K n x1 x2 x3]
theorem f124_4_ok (N : Nat) (hlp : LoopsOk Try.prog (E124 N).lp B124_4) (hΓ : CtxOk Try.prog (E124 N).Γ) : LoopOk Try.prog (mkL N124_4 f124_4_sh (f124_4_F N)) 4 B124_4 := by
  refine loopOk_of (E := E124 N) thOk hΓ mixed hlp ?_
  intro R ls K r h
  unfold f124_4_F at h
  split at h
  · exact ⟨N, by rw [f124_4_lp_eq]; exact h⟩
  · cases h
theorem f124_8_st_eq {R : Type} (N : Nat) (K : X → AS → Option R) (n : Nat) (x1 : List Int) (x2 : List Int) : roundsOf (E124 N) N124_8 8 B124_8 K (n + 1) (fill f124_8_sh [.l x1, .l x2]) = f124_8_st N (fun x1 x2 => roundsOf (E124 N) N124_8 8 B124_8 K n (fill f124_8_sh [.l x1, .l x2])) (fun y1 y2 y3 => K (X.normal) (fill f124_8_ex1 [.b y1, .l y2, .l y3])) x1 x2 := by kernel_rfl
theorem f124_8_lp_eq {R : Type} (N : Nat) (K : X → AS → Option R) : ∀ (n : Nat) (x1 : List Int) (x2 : List Int), roundsOf (E124 N) N124_8 8 B124_8 K n (fill f124_8_sh [.l x1, .l x2]) = f124_8_lp N (fun y1 y2 y3 => K (X.normal) (fill f124_8_ex1 [.b y1, .l y2, .l y3])) n x1 x2
  | 0, _, _ => rfl
  | n + 1, x1, x2 => by
    rw [f124_8_st_eq, f124_8_lp, show (fun x1 x2 => roundsOf (E124 N) N124_8 8 B124_8 K n (fill f124_8_sh [.l x1, .l x2])) = f124_8_lp N (fun y1 y2 y3 => K (X.normal) (fill f124_8_ex1 [.b y1, .l y2, .l y3])) n from by funext x1 x2; exact f124_8_lp_eq N K n x1 x2]
theorem f124_8_ok (N : Nat) (hlp : LoopsOk Try.prog (E124 N).lp B124_8) (hΓ : CtxOk Try.prog (E124 N).Γ) : LoopOk Try.prog (mkL N124_8 f124_8_sh (f124_8_F N)) 8 B124_8 := by
  refine loopOk_of (E := E124 N) thOk hΓ mixed hlp ?_
  intro R ls K r h
  unfold f124_8_F at h
  split at h
  · exact ⟨N, by rw [f124_8_lp_eq]; exact h⟩
  · cases h

theorem lok124_8 (N : Nat) (hΓ : CtxOk Try.prog HB) : LoopOk Try.prog (mkL N124_8 f124_8_sh (f124_8_F N)) 8 B124_8 := f124_8_ok N (loopsOk_of (l := []) (by kernel_rfl) trivial) hΓ
theorem lok124_6 (N : Nat) (hΓ : CtxOk Try.prog HB) : LoopOk Try.prog (mkL N124_6 f124_6_sh (f124_6_F N)) 6 B124_6 := f124_6_ok N (loopsOk_of (l := []) (by kernel_rfl) trivial) hΓ
theorem lok124_4 (N : Nat) (hΓ : CtxOk Try.prog HB) : LoopOk Try.prog (mkL N124_4 f124_4_sh (f124_4_F N)) 4 B124_4 := f124_4_ok N (loopsOk_of (l := [(6, B124_6)]) (by kernel_rfl) (allOk_cons (L := mkL N124_6 f124_6_sh (f124_6_F N)) rfl (lok124_6 N hΓ) trivial)) hΓ
theorem lok124_2 (N : Nat) (hΓ : CtxOk Try.prog HB) : LoopOk Try.prog (mkL N124_2 f124_2_sh (f124_2_F N)) 2 B124_2 := f124_2_ok N (loopsOk_of (l := []) (by kernel_rfl) trivial) hΓ
theorem f124_contract (N : Nat) (hΓ : CtxOk Try.prog HB) : Contract Try.prog 124 { sig := S124, impl := fun _ ds k => call (E124 N) S124 100 B124 R124 ds k } :=
  call_contract (E := E124 N) thOk hΓ mixed ok124.look ok124.body ok124.n ok124.rv ok124.name rfl (by decide) (loopsOk_of (l := [(0, B124_0), (2, B124_2), (4, B124_4), (6, B124_6), (8, B124_8)]) (by kernel_rfl) (allOk_skip rfl (allOk_cons (L := mkL N124_2 f124_2_sh (f124_2_F N)) rfl (lok124_2 N hΓ) (allOk_cons (L := mkL N124_4 f124_4_sh (f124_4_F N)) rfl (lok124_4 N hΓ) (allOk_cons (L := mkL N124_6 f124_6_sh (f124_6_F N)) rfl (lok124_6 N hΓ) (allOk_cons (L := mkL N124_8 f124_8_sh (f124_8_F N)) rfl (lok124_8 N hΓ) trivial))))))
theorem f124_raw_eq {R : Type} (N : Nat) (l : List Int) (k : List DV → Option R) : call (E124 N) S124 100 B124 R124 [.lst .u64 1 l] k = f124_raw N l k := by kernel_rfl
end Go.Proofs.Ytcgolglcjfknpaa

/- The document's numbers: any digits, modulo p. -/
namespace Go.Proofs.Ytcgolglcjfknpaa
open Go Go.Eng
set_option maxRecDepth 100000
set_option linter.unusedVariables false

/-! ### the upper half, 38 times, onto the lower one -/
def foldF (l : List Nat) (i : Nat) : List Nat := (List.range 16).map fun j => (if j < i then l.getD j 0 else 0) + (if j + 16 < i then 38 * l.getD (j + 16) 0 else 0)
theorem foldF_len (l : List Nat) (i : Nat) : (foldF l i).length = 16 := by simp [foldF]
theorem foldF_get (l : List Nat) (i j : Nat) (hj : j < 16) : (foldF l i).getD j 0 = (if j < i then l.getD j 0 else 0) + (if j + 16 < i then 38 * l.getD (j + 16) 0 else 0) := by
  rw [List.getD_eq_getElem?_getD, List.getElem?_eq_getElem (by rw [foldF_len]; exact hj), Option.getD_some]
  simp [foldF]
theorem ext_getD {a b : List Nat} (h : a.length = b.length) (h2 : ∀ j, j < a.length → a.getD j 0 = b.getD j 0) : a = b := by
  apply List.ext_getElem h
  intro j h1 h3
  have := h2 j h1
  rwa [List.getD_eq_getElem?_getD, List.getD_eq_getElem?_getD, List.getElem?_eq_getElem h1, List.getElem?_eq_getElem h3] at this
theorem getD_set {a : List Nat} {i j y : Nat} (hi : i < a.length) : (a.set i y).getD j 0 = if j = i then y else a.getD j 0 := by
  rw [List.getD_eq_getElem?_getD, List.getElem?_set]
  by_cases h : i = j
  · subst h; simp [hi]
  · rw [if_neg h, if_neg (fun e => h e.symm), List.getD_eq_getElem?_getD]
theorem foldF_lo (l : List Nat) {i : Nat} (hi : i < 16) : (foldF l i).set i ((foldF l i).getD i 0 + l.getD i 0) = foldF l (i + 1) := by
  apply ext_getD (by rw [List.length_set, foldF_len, foldF_len])
  intro j hj
  rw [List.length_set, foldF_len] at hj
  rw [getD_set (by rw [foldF_len]; exact hi), foldF_get _ _ _ hj, foldF_get _ _ _ hj, foldF_get _ _ _ hi]
  by_cases h : j = i
  · subst h
    rw [if_pos rfl, if_neg (by omega), if_neg (by omega), if_pos (by omega), if_neg (by omega)]
    omega
  · rw [if_neg h, if_neg (show ¬ j + 16 < i by omega), if_neg (show ¬ j + 16 < i + 1 by omega)]
    by_cases h2 : j < i
    · rw [if_pos h2, if_pos (by omega)]
    · rw [if_neg h2, if_neg (by omega)]
theorem foldF_hi (l : List Nat) {i : Nat} (h1 : 16 ≤ i) (h2 : i < 32) : (foldF l i).set (i - 16) ((foldF l i).getD (i - 16) 0 + 38 * l.getD i 0) = foldF l (i + 1) := by
  apply ext_getD (by rw [List.length_set, foldF_len, foldF_len])
  intro j hj
  rw [List.length_set, foldF_len] at hj
  rw [getD_set (by rw [foldF_len]; omega), foldF_get _ _ _ hj, foldF_get _ _ _ hj, foldF_get _ _ _ (by omega)]
  by_cases h : j = i - 16
  · subst h
    rw [if_pos rfl, if_pos (by omega), if_neg (by omega), if_pos (by omega), if_pos (by omega), show i - 16 + 16 = i by omega]
    omega
  · rw [if_neg h, if_pos (show j < i by omega), if_pos (show j < i + 1 by omega)]
    by_cases h3 : j + 16 < i
    · rw [if_pos h3, if_pos (by omega)]
    · rw [if_neg h3, if_neg (by omega)]
theorem getD_lt {l : List Nat} {M : Nat} (hM : 0 < M) (h : ∀ x ∈ l, x < M) (j : Nat) : l.getD j 0 < M := by
  rw [List.getD_eq_getElem?_getD]
  cases e : l[j]? with
  | none => exact hM
  | some a => exact h a (List.mem_of_getElem? e)
theorem foldF_lt {l : List Nat} (h : ∀ x ∈ l, x < 1099511627776) (i j : Nat) (hj : j < 16) : (foldF l i).getD j 0 < 42880953483264 := by
  rw [foldF_get _ _ _ hj]
  have h1 := getD_lt (by decide) h j
  have h2 := getD_lt (by decide) h (j + 16)
  split <;> split <;> omega
theorem foldF_mem {l : List Nat} (h : ∀ x ∈ l, x < 1099511627776) (i : Nat) : ∀ x ∈ foldF l i, x < 2 ^ 46 := by
  intro x hx
  obtain ⟨j, hj, rfl⟩ := List.getElem_of_mem hx
  have hj' : j < 16 := by rw [← foldF_len l i]; exact hj
  have := foldF_lt h i j hj'
  rw [List.getD_eq_getElem?_getD, List.getElem?_eq_getElem hj, Option.getD_some] at this
  omega

theorem valB_map_add (b c : Nat) (f g : Nat → Nat) : ∀ r : List Nat, valB b (r.map fun j => f j + c * g j) = valB b (r.map f) + c * valB b (r.map g)
  | [] => by simp [valB]
  | x :: r => by
    simp only [List.map_cons, valB, valB_map_add b c f g r, Nat.mul_add]
    rw [Nat.mul_left_comm b c]
    omega
theorem valB_zeros (b : Nat) : ∀ (r : List Nat), valB b (r.map fun _ => 0) = 0
  | [] => rfl
  | x :: r => by simp only [List.map_cons, valB, valB_zeros b r]; rfl
theorem valB_range (b : Nat) : ∀ (n : Nat) (l : List Nat), valB b ((List.range n).map fun j => l.getD j 0) = valB b (l.take n)
  | 0, l => by simp [valB]
  | n + 1, [] => by
    have := valB_zeros b (List.range (n + 1))
    simpa [valB] using this
  | n + 1, x :: t => by
    rw [List.range_succ_eq_map, List.map_cons, List.map_map, List.take_succ_cons, valB, valB, ← valB_range b n t]
    rfl
theorem foldF_val {l : List Nat} (hl : l.length ≤ 32) : valB 65536 (foldF l l.length) = valB 65536 (l.take 16) + 38 * valB 65536 (l.drop 16) := by
  have e : foldF l l.length = (List.range 16).map fun j => l.getD j 0 + 38 * (l.drop 16).getD j 0 := by
    unfold foldF
    apply List.map_congr_left
    intro j _
    have e1 : (if j < l.length then l.getD j 0 else 0) = l.getD j 0 := by
      split
      · rfl
      · rw [List.getD_eq_getElem?_getD, List.getElem?_eq_none (by omega)]; rfl
    have e2 : (l.drop 16).getD j 0 = l.getD (j + 16) 0 := by
      rw [List.getD_eq_getElem?_getD, List.getD_eq_getElem?_getD, List.getElem?_drop, Nat.add_comm]
    rw [e1, e2]
    split
    · rfl
    · rw [List.getD_eq_getElem?_getD (l := l) (i := j + 16), List.getElem?_eq_none (by omega)]; rfl
  rw [e, valB_map_add, valB_range, valB_range, List.take_of_length_le (l := l.drop 16) (by rw [List.length_drop]; omega)]
theorem val_halves (l : List Nat) : valB 65536 l = valB 65536 (l.take 16) + 65536 ^ 16 * valB 65536 (l.drop 16) := by
  conv => lhs; rw [← List.take_append_drop 16 l]
  rw [valB_append, List.length_take]
  by_cases h : 16 ≤ l.length
  · rw [Nat.min_eq_left h]
  · rw [List.drop_of_length_le (by omega)]; simp [valB]
theorem two256 : 65536 ^ 16 = 38 + p25519 * 2 := by decide
theorem foldF_mod {l : List Nat} (hl : l.length ≤ 32) : valB 65536 (foldF l l.length) % p25519 = valB 65536 l % p25519 := by
  rw [foldF_val hl, val_halves l, two256, Nat.add_mul, ← Nat.add_assoc, Nat.mul_assoc, Nat.add_mul_mod_self_left]

theorem f124_fold {R : Type} (N : Nat) (k1 : Bool → Int → List Int → List Int → List Int → Option R) (z : List Int) {l : List Nat} (hl : l.length ≤ 32) (hb : ∀ x ∈ l, x < 1099511627776) :
    ∀ j i : Nat, i + j = l.length → ∀ fuel, j < fuel → f124_2_lp N k1 fuel (i : Int) (nats l) z (nats (foldF l i)) = k1 false (l.length : Int) (nats l) z (nats (foldF l l.length)) := by
  intro j
  induction j with
  | zero =>
    intro i hi fuel hf
    obtain ⟨f, rfl⟩ : ∃ f, fuel = f + 1 := ⟨fuel - 1, by omega⟩
    have : i = l.length := by omega
    subst this
    show f124_2_st N (f124_2_lp N k1 f) k1 _ _ _ _ = _
    unfold f124_2_st
    rw [show nI (rowLen 1 (nats l)) = (l.length : Int) from by show (((nats l).length : Nat) : Int) = _; rw [nats_length], decide_eq_false (by omega), cond_false]
  | succ j ih =>
    intro i hi fuel hf
    obtain ⟨f, rfl⟩ : ∃ f, fuel = f + 1 := ⟨fuel - 1, by omega⟩
    have hx := getD_lt (by decide) hb i
    show f124_2_st N (f124_2_lp N k1 f) k1 _ _ _ _ = _
    unfold f124_2_st
    rw [show nI (rowLen 1 (nats l)) = (l.length : Int) from by show (((nats l).length : Nat) : Int) = _; rw [nats_length]]
    rw [decide_eq_true (show (i : Int) < (l.length : Int) by omega), decide_eq_true (show 0 ≤ (i : Int) by omega), show mulE (Int.toNat (i : Int)) 1 = i from rfl]
    have hn := ih (i + 1) (by omega) f (by omega)
    rw [show ((i + 1 : Nat) : Int) = (i : Int) + 1 from rfl] at hn
    by_cases h : i < 16
    · rw [decide_eq_true (show (i : Int) < 16 by omega)]
      simp only [Bool.and_self, cond_true]
      rw [nats_getD, nats_getD, wrapI (by omega) (by omega)]
      have hf := foldF_lt hb i i h
      rw [show (((foldF l i).getD i 0 : Nat) : Int) + ((l.getD i 0 : Nat) : Int) = (((foldF l i).getD i 0 + l.getD i 0 : Nat) : Int) from rfl, w64 (by omega), nats_set, foldF_lo l h]
      exact hn
    · rw [decide_eq_false (show ¬ (i : Int) < 16 by omega), wrapI (a := (i : Int) - 16) (by omega) (by omega), show (i : Int) - 16 = ((i - 16 : Nat) : Int) by omega]
      dsimp only
      rw [decide_eq_true (show 0 ≤ ((i - 16 : Nat) : Int) by omega), decide_eq_true (show ((i - 16 : Nat) : Int) < 16 by omega), show mulE (Int.toNat ((i - 16 : Nat) : Int)) 1 = i - 16 from rfl]
      simp only [Bool.and_self, cond_true, cond_false]
      rw [nats_getD, nats_getD, wrapI (a := (i : Int) + 1) (by omega) (by omega)]
      have hf := foldF_lt hb i (i - 16) (by omega)
      rw [show (38 : Int) * ((l.getD i 0 : Nat) : Int) = ((38 * l.getD i 0 : Nat) : Int) from rfl, w64 (n := 38 * l.getD i 0) (by omega)]
      rw [show (((foldF l i).getD (i - 16) 0 : Nat) : Int) + ((38 * l.getD i 0 : Nat) : Int) = (((foldF l i).getD (i - 16) 0 + 38 * l.getD i 0 : Nat) : Int) from rfl, w64 (by omega), nats_set, foldF_hi l (by omega) (by omega)]
      exact hn

/-! ### one turn -/
theorem f124_norm {R : Type} (N : Nat) (k1 : Bool → Int → Int → Int → List Int → List Int → Option R) (t : Int) (z : List Int) :
    ∀ (B A : List Nat) (c : Nat), A.length + B.length = 16 → (∀ x ∈ B, x < 2 ^ 46) → c < 2 ^ 46 → ∀ fuel, B.length < fuel →
      f124_6_lp N k1 fuel t (c : Int) (A.length : Int) z (nats (A ++ B)) = k1 false t ((normG B c).2 : Int) 16 z (nats (A ++ (normG B c).1)) := by
  intro B
  induction B with
  | nil =>
    intro A c hA _ hc fuel hf
    obtain ⟨f, rfl⟩ : ∃ f, fuel = f + 1 := ⟨fuel - 1, by omega⟩
    have hl : A.length = 16 := by simpa using hA
    show f124_6_st N (f124_6_lp N k1 f) k1 _ _ _ _ _ = _
    unfold f124_6_st
    rw [hl]
    rfl
  | cons x B ih =>
    intro A c hA hB hc fuel hf
    obtain ⟨f, rfl⟩ : ∃ f, fuel = f + 1 := ⟨fuel - 1, by omega⟩
    rw [List.length_cons] at hA hf
    have hi : A.length < 16 := by omega
    have hx := hB x (.head _)
    show f124_6_st N (f124_6_lp N k1 f) k1 _ _ _ _ _ = _
    unfold f124_6_st
    rw [decide_eq_true (show (A.length : Int) < 16 by omega), decide_eq_true (show 0 ≤ (A.length : Int) by omega), cond_true, Bool.and_self, cond_true, cond_true]
    dsimp only
    rw [ngetD, show (x : Int) + (c : Int) = ((x + c : Nat) : Int) from rfl, w64 (n := x + c) (by omega)]
    simp only [normG]
    have hv : x + c < 2 ^ 47 := by omega
    generalize x + c = v at hv
    rw [show ((v : Int).tdiv 65536) = ((v / 65536 : Nat) : Int) from rfl, w64 (n := v / 65536) (by omega)]
    rw [show ((v : Int).tmod 65536) = ((v % 65536 : Nat) : Int) from rfl, nset, wrapI (a := (A.length : Int) + 1) (by omega) (by omega)]
    have := ih (A ++ [v % 65536]) (v / 65536) (by rw [app_len]; omega) (fun y hy => hB y (.tail _ hy)) (by omega) f (by omega)
    rw [app_len, ← app_cons, show ((A.length + 1 : Nat) : Int) = (A.length : Int) + 1 from rfl, ← app_cons] at this
    exact this
def turns : Nat → List Nat → List Nat
  | 0, d => d
  | m + 1, d => turns m (turnG d)
theorem f124_turns {R : Type} (N : Nat) (hN : 16 < N) (k1 : Bool → Int → List Int → List Int → Option R) (z : List Int) :
    ∀ (m i : Nat), i + m = 8 → ∀ d : List Nat, d.length = 16 → (∀ x ∈ d, x < 2 ^ 46) → ∀ fuel, m < fuel → f124_4_lp N k1 fuel (i : Int) z (nats d) = k1 false 8 z (nats (turns m d)) := by
  intro m
  induction m with
  | zero =>
    intro i hi d hd hb fuel hf
    obtain ⟨f, rfl⟩ : ∃ f, fuel = f + 1 := ⟨fuel - 1, by omega⟩
    have : i = 8 := by omega
    subst this
    rfl
  | succ m ih =>
    intro i hi d hd hb fuel hf
    obtain ⟨f, rfl⟩ : ∃ f, fuel = f + 1 := ⟨fuel - 1, by omega⟩
    show f124_4_st N (f124_4_lp N k1 f) k1 _ _ _ = _
    unfold f124_4_st
    rw [decide_eq_true (show (i : Int) < 8 by omega), cond_true]
    refine Eq.trans (f124_norm N _ (i : Int) z d [] 0 (by simpa using hd) hb (by decide) N (by omega)) ?_
    dsimp only
    have hc := normG_carry d 0 hb (by decide) (fun e => by rw [e] at hd; simp at hd)
    obtain ⟨h1, h2, _⟩ := normG_spec d 0
    rw [wrapI (by omega) (by omega), List.nil_append]
    have ht : (nats (normG d 0).1).set (mulE (Int.toNat 0) 1) (IntKind.u64.wrap ((nats (normG d 0).1).getD (mulE (Int.toNat 0) 1) 0 + IntKind.u64.wrap (38 * ((normG d 0).2 : Int)))) = nats (turnG d) := by
      unfold turnG
      cases hn : (normG d 0).1 with
      | nil => rw [hn, hd] at h1; simp at h1
      | cons y r =>
        have hy := h2 y (by rw [hn]; exact .head _)
        rw [show mulE (Int.toNat 0) 1 = 0 from rfl, nats_getD, show (38 : Int) * (((normG d 0).2 : Nat) : Int) = ((38 * (normG d 0).2 : Nat) : Int) from rfl, w64 (n := 38 * (normG d 0).2) (by omega)]
        rw [show (((y :: r).getD 0 0 : Nat) : Int) + ((38 * (normG d 0).2 : Nat) : Int) = ((y + 38 * (normG d 0).2 : Nat) : Int) from rfl, w64 (n := y + 38 * (normG d 0).2) (by omega), nats_set]
        rfl
    rw [ht]
    exact ih (i + 1) (by omega) (turnG d) (by rw [turnG_length]; exact hd) (turnG_lt hb) f (by omega)

theorem turn_mod {d : List Nat} (hd : d.length = 16) : valB 65536 (turnG d) % p25519 = valB 65536 d % p25519 := by
  have h := turnG_val (l := d) (fun e => by rw [e] at hd; simp at hd)
  rw [hd, two256, Nat.add_mul] at h
  have : valB 65536 d = valB 65536 (turnG d) + p25519 * (2 * (normG d 0).2) := by rw [← Nat.mul_assoc]; omega
  rw [this, Nat.add_mul_mod_self_left]
theorem turns_mod : ∀ (m : Nat) {d : List Nat}, d.length = 16 → valB 65536 (turns m d) % p25519 = valB 65536 d % p25519
  | 0, _, _ => rfl
  | m + 1, d, h => by
    show valB 65536 (turns m (turnG d)) % _ = _
    rw [turns_mod m (by rw [turnG_length]; exact h), turn_mod h]
theorem turns_ok : ∀ (m : Nat) {d : List Nat}, d.length = 16 → valB 65536 d < 65536 ^ 16 → (turns (m + 1) d).length = 16 ∧ valB 65536 (turns (m + 1) d) < 65536 ^ 16 ∧ ∀ x ∈ turns (m + 1) d, x < 65536
  | 0, d, h, hv => by
    obtain ⟨h1, h2⟩ := turnG_ok (l := d) (by rw [h]; exact hv) (fun e => by rw [e] at h; simp at h)
    exact ⟨by show (turnG d).length = 16; rw [turnG_length]; exact h, by show valB 65536 (turnG d) < _; rw [h1]; exact hv, h2⟩
  | m + 1, d, h, hv => by
    obtain ⟨h1, h2⟩ := turnG_ok (l := d) (by rw [h]; exact hv) (fun e => by rw [e] at h; simp at h)
    exact turns_ok m (d := turnG d) (by rw [turnG_length]; exact h) (by rw [h1]; exact hv)
theorem turn_two {d : List Nat} (hd : d.length = 16) (hb : ∀ x ∈ d, x < 2 ^ 46) : valB 65536 (turnG (turnG d)) < 65536 ^ 16 := by
  have hn : d ≠ [] := fun e => by rw [e] at hd; simp at hd
  have hd1 : (turnG d).length = 16 := by rw [turnG_length]; exact hd
  have hn1 : turnG d ≠ [] := fun e => by rw [e] at hd1; simp at hd1
  have hc := normG_carry d 0 hb (by decide) hn
  have v1 := turnG_val hn
  have v2 := turnG_val hn1
  obtain ⟨l1, s1, e1⟩ := normG_spec d 0
  obtain ⟨l2, s2, e2⟩ := normG_spec (turnG d) 0
  have b1 := valB_lt (b := 65536) (by decide) s1
  have b2 := valB_lt (b := 65536) (by decide) s2
  rw [l1, hd] at b1
  rw [l2, hd1] at b2
  rw [hd] at v1 e1
  rw [hd1] at v2 e2
  have hc2 : (normG (turnG d) 0).2 ≤ 1 := by
    apply Nat.le_of_not_lt
    intro h
    have : 65536 ^ 16 * 2 ≤ 65536 ^ 16 * (normG (turnG d) 0).2 := Nat.mul_le_mul_left _ h
    generalize 65536 ^ 16 * (normG (turnG d) 0).2 = T at *
    generalize 65536 ^ 16 * (normG d 0).2 = T2 at *
    have : (65536 : Nat) ^ 16 = 115792089237316195423570985008687907853269984665640564039457584007913129639936 := by decide
    omega
  generalize valB 65536 (turnG (turnG d)) = V2 at *
  generalize valB 65536 (turnG d) = V1 at *
  generalize valB 65536 (normG d 0).1 = R1 at *
  generalize valB 65536 (normG (turnG d) 0).1 = R2 at *
  generalize (normG d 0).2 = c1 at *
  generalize (normG (turnG d) 0).2 = c2 at *
  have h16 : (65536 : Nat) ^ 16 = 115792089237316195423570985008687907853269984665640564039457584007913129639936 := by decide
  rw [h16] at *
  omega

/-! ### less p, as often as may be -/
theorem f124_less {R : Type} (N : Nat) (k1 : Bool → List Int → List Int → Option R) (z : List Int) : ∀ (fuel v : Nat), v < p25519 * fuel → v < 2 ^ 256 → f124_8_lp N k1 fuel z (refN v) = k1 false z (refN (v % p25519)) := by
  intro fuel
  induction fuel with
  | zero => intro v h; rw [Nat.mul_zero] at h; omega
  | succ f ih =>
    intro v hv h256
    show f124_8_st N (f124_8_lp N k1 f) k1 _ _ = _
    unfold f124_8_st
    rw [okD_refN, cond_true, numD_refN h256, Bool.true_and]
    by_cases h : p25519 ≤ v
    · rw [decide_eq_true h, cond_true, cond_true, ih (v - p25519) (by rw [Nat.mul_succ] at hv; omega) (by omega)]
      rw [Nat.mod_eq_sub_mod h]
    · rw [decide_eq_false h, cond_false, Nat.mod_eq_of_lt (by omega)]

def okL (x : List Int) : Bool := decide (x.length ≤ 32) && x.all (fun b => decide (0 ≤ b) && decide (b < 1099511627776))
theorem okL_of {x : List Int} (h : okL x = true) : ∃ l : List Nat, x = nats l ∧ l.length ≤ 32 ∧ ∀ b ∈ l, b < 1099511627776 := by
  unfold okL at h
  rw [Bool.and_eq_true, List.all_eq_true] at h
  obtain ⟨h1, h2⟩ := h
  have h3 : ∀ b ∈ x, 0 ≤ b ∧ b < 1099511627776 := fun b hb => by
    have := h2 b hb
    rw [Bool.and_eq_true] at this
    exact ⟨of_decide_eq_true this.1, of_decide_eq_true this.2⟩
  obtain ⟨l, rfl⟩ := nats_of (xs := x) fun b hb => (h3 b hb).1
  exact ⟨l, rfl, by rw [← nats_length]; exact of_decide_eq_true h1, fun b hb => Int.ofNat_lt.mp (h3 b (List.mem_map.mpr ⟨b, hb, rfl⟩)).2⟩
theorem okL_nats {l : List Nat} (hl : l.length ≤ 32) (h : ∀ b ∈ l, b < 1099511627776) : okL (nats l) = true := by
  unfold okL
  rw [nats_length, decide_eq_true hl, Bool.true_and, List.all_eq_true]
  intro b hb
  unfold nats at hb
  obtain ⟨n, hn, rfl⟩ := List.mem_map.mp hb
  have := h n hn
  rw [Bool.and_eq_true]
  exact ⟨decide_eq_true (Int.natCast_nonneg n), decide_eq_true (Int.ofNat_lt.mpr this)⟩
noncomputable def I124 : (R : Type) → List DV → (List DV → Option R) → Option R := fun _ ds k => match ds with
  | [.lst .u64 1 l] => bif okL l then k [.v (.one (.ints .u64 16 (refN (numD l % p25519))))] else none
  | _ => none
theorem c124 : Contract Try.prog 124 { sig := S124, impl := I124 } := by
  refine Contract.refine fun R ds k r h => ⟨_, f124_contract 33 HB_ok, ?_⟩
  unfold I124 at h
  split at h
  · rename_i x
    rcases hc : okL x with _ | _
    · rw [hc] at h; cases h
    · rw [hc, cond_true] at h
      obtain ⟨l, rfl, hl, hb⟩ := okL_of hc
      rw [numD_nats] at h
      rw [f124_raw_eq, ← h]
      unfold f124_raw
      rw [show nI (rowLen 1 (nats l)) = (l.length : Int) from by show (((nats l).length : Nat) : Int) = _; rw [nats_length], decide_eq_false (show ¬ (l.length : Int) > 32 by omega), cond_false]
      have h0 : List.replicate 16 (0 : Int) = nats (foldF l 0) := by
        unfold foldF; simp [nats]; rfl
      conv => lhs; rw [h0]
      refine Eq.trans (f124_fold 33 _ (nats (foldF l 0)) hl hb l.length 0 (by omega) 33 (by omega)) ?_
      refine Eq.trans (f124_turns 33 (by decide) _ _ 8 0 rfl _ (foldF_len _ _) (foldF_mem hb _) 33 (by decide)) ?_
      have hlen := foldF_len l l.length
      obtain ⟨t1, t2, t3⟩ := turns_ok 5 (d := turnG (turnG (foldF l l.length))) (by rw [turnG_length, turnG_length]; exact hlen) (turn_two hlen (foldF_mem hb _))
      have ht : turns 8 (foldF l l.length) = turns 6 (turnG (turnG (foldF l l.length))) := rfl
      have hm := turns_mod 8 hlen
      rw [foldF_mod hl, ht] at hm
      rw [ht, nats_refN t1 t3]
      have h16 : (65536 : Nat) ^ 16 = 2 ^ 256 := by decide
      refine Eq.trans (f124_less 33 _ _ 33 _ (by rw [h16] at t2; exact Nat.lt_trans t2 (by decide)) (by rw [h16] at t2; exact t2)) ?_
      rw [hm]
  · cases h
end Go.Proofs.Ytcgolglcjfknpaa

/- Context of the document's numbers, with mod. -/
namespace Go.Proofs.Ytcgolglcjfknpaa
open Go Go.Eng
set_option maxRecDepth 100000
noncomputable def HC : Ctx := [(124, { sig := S124, impl := I124 }), (128, { sig := S128, impl := I128 }), (129, { sig := S129, impl := I129 }), (130, { sig := S130, impl := I130 }), (125, { sig := S125, impl := I125 })]
theorem HC_ok : CtxOk Try.prog HC := ctxOk_cons ok124 rfl c124 (ctxOk_cons ok128 rfl c128 (ctxOk_cons ok129 rfl c129 (ctxOk_cons ok130 rfl c130 (ctxOk_cons ok125 rfl c125 ctxOk_nil))))
end Go.Proofs.Ytcgolglcjfknpaa

/- What rime/rimeref01.Back comes to. MADE BY PROGRAM (wip/tools/mkfn.py, EngGen.lean). -/
namespace Go.Proofs.Ytcgolglcjfknpaa
open Go Go.Eng
set_option maxRecDepth 100000
set_option linter.unusedVariables false

noncomputable def f68_raw {R : Type} (N : Nat) (x : List Int) (k : List DV → Option R) : Option R :=
 let v0 : Int := IntKind.i64.wrap (2 * 0);
let v1 : Int := IntKind.u8.wrap (x.getD (mulE (Int.toNat 0) 1) 0);
let v2 : List Int := (List.replicate 32 0).set (mulE v0.toNat 1) v1;
let v3 : Int := IntKind.i64.wrap (v0 + 1);
let v4 : Int := shrI IntKind.u64 (x.getD (mulE (Int.toNat 0) 1) 0) 8;
let v5 : Int := IntKind.u8.wrap v4;
let v6 : List Int := v2.set (mulE v3.toNat 1) v5;
let v7 : Int := IntKind.i64.wrap (0 + 1);
let v8 : Int := IntKind.i64.wrap (2 * v7);
let v9 : Int := IntKind.u8.wrap (x.getD (mulE v7.toNat 1) 0);
let v10 : List Int := v6.set (mulE v8.toNat 1) v9;
let v11 : Int := IntKind.i64.wrap (v8 + 1);
let v12 : Int := shrI IntKind.u64 (x.getD (mulE v7.toNat 1) 0) 8;
let v13 : Int := IntKind.u8.wrap v12;
let v14 : List Int := v10.set (mulE v11.toNat 1) v13;
let v15 : Int := IntKind.i64.wrap (v7 + 1);
let v16 : Int := IntKind.i64.wrap (2 * v15);
let v17 : Int := IntKind.u8.wrap (x.getD (mulE v15.toNat 1) 0);
let v18 : List Int := v14.set (mulE v16.toNat 1) v17;
let v19 : Int := IntKind.i64.wrap (v16 + 1);
let v20 : Int := shrI IntKind.u64 (x.getD (mulE v15.toNat 1) 0) 8;
let v21 : Int := IntKind.u8.wrap v20;
let v22 : List Int := v18.set (mulE v19.toNat 1) v21;
let v23 : Int := IntKind.i64.wrap (v15 + 1);
let v24 : Int := IntKind.i64.wrap (2 * v23);
let v25 : Int := IntKind.u8.wrap (x.getD (mulE v23.toNat 1) 0);
let v26 : List Int := v22.set (mulE v24.toNat 1) v25;
let v27 : Int := IntKind.i64.wrap (v24 + 1);
let v28 : Int := shrI IntKind.u64 (x.getD (mulE v23.toNat 1) 0) 8;
let v29 : Int := IntKind.u8.wrap v28;
let v30 : List Int := v26.set (mulE v27.toNat 1) v29;
let v31 : Int := IntKind.i64.wrap (v23 + 1);
let v32 : Int := IntKind.i64.wrap (2 * v31);
let v33 : Int := IntKind.u8.wrap (x.getD (mulE v31.toNat 1) 0);
let v34 : List Int := v30.set (mulE v32.toNat 1) v33;
let v35 : Int := IntKind.i64.wrap (v32 + 1);
let v36 : Int := shrI IntKind.u64 (x.getD (mulE v31.toNat 1) 0) 8;
let v37 : Int := IntKind.u8.wrap v36;
let v38 : List Int := v34.set (mulE v35.toNat 1) v37;
let v39 : Int := IntKind.i64.wrap (v31 + 1);
let v40 : Int := IntKind.i64.wrap (2 * v39);
let v41 : Int := IntKind.u8.wrap (x.getD (mulE v39.toNat 1) 0);
let v42 : List Int := v38.set (mulE v40.toNat 1) v41;
let v43 : Int := IntKind.i64.wrap (v40 + 1);
let v44 : Int := shrI IntKind.u64 (x.getD (mulE v39.toNat 1) 0) 8;
let v45 : Int := IntKind.u8.wrap v44;
let v46 : List Int := v42.set (mulE v43.toNat 1) v45;
let v47 : Int := IntKind.i64.wrap (v39 + 1);
let v48 : Int := IntKind.i64.wrap (2 * v47);
let v49 : Int := IntKind.u8.wrap (x.getD (mulE v47.toNat 1) 0);
let v50 : List Int := v46.set (mulE v48.toNat 1) v49;
let v51 : Int := IntKind.i64.wrap (v48 + 1);
let v52 : Int := shrI IntKind.u64 (x.getD (mulE v47.toNat 1) 0) 8;
let v53 : Int := IntKind.u8.wrap v52;
let v54 : List Int := v50.set (mulE v51.toNat 1) v53;
let v55 : Int := IntKind.i64.wrap (v47 + 1);
let v56 : Int := IntKind.i64.wrap (2 * v55);
let v57 : Int := IntKind.u8.wrap (x.getD (mulE v55.toNat 1) 0);
let v58 : List Int := v54.set (mulE v56.toNat 1) v57;
let v59 : Int := IntKind.i64.wrap (v56 + 1);
let v60 : Int := shrI IntKind.u64 (x.getD (mulE v55.toNat 1) 0) 8;
let v61 : Int := IntKind.u8.wrap v60;
let v62 : List Int := v58.set (mulE v59.toNat 1) v61;
let v63 : Int := IntKind.i64.wrap (v55 + 1);
let v64 : Int := IntKind.i64.wrap (2 * v63);
let v65 : Int := IntKind.u8.wrap (x.getD (mulE v63.toNat 1) 0);
let v66 : List Int := v62.set (mulE v64.toNat 1) v65;
let v67 : Int := IntKind.i64.wrap (v64 + 1);
let v68 : Int := shrI IntKind.u64 (x.getD (mulE v63.toNat 1) 0) 8;
let v69 : Int := IntKind.u8.wrap v68;
let v70 : List Int := v66.set (mulE v67.toNat 1) v69;
let v71 : Int := IntKind.i64.wrap (v63 + 1);
let v72 : Int := IntKind.i64.wrap (2 * v71);
let v73 : Int := IntKind.u8.wrap (x.getD (mulE v71.toNat 1) 0);
let v74 : List Int := v70.set (mulE v72.toNat 1) v73;
let v75 : Int := IntKind.i64.wrap (v72 + 1);
let v76 : Int := shrI IntKind.u64 (x.getD (mulE v71.toNat 1) 0) 8;
let v77 : Int := IntKind.u8.wrap v76;
let v78 : List Int := v74.set (mulE v75.toNat 1) v77;
let v79 : Int := IntKind.i64.wrap (v71 + 1);
let v80 : Int := IntKind.i64.wrap (2 * v79);
let v81 : Int := IntKind.u8.wrap (x.getD (mulE v79.toNat 1) 0);
let v82 : List Int := v78.set (mulE v80.toNat 1) v81;
let v83 : Int := IntKind.i64.wrap (v80 + 1);
let v84 : Int := shrI IntKind.u64 (x.getD (mulE v79.toNat 1) 0) 8;
let v85 : Int := IntKind.u8.wrap v84;
let v86 : List Int := v82.set (mulE v83.toNat 1) v85;
let v87 : Int := IntKind.i64.wrap (v79 + 1);
let v88 : Int := IntKind.i64.wrap (2 * v87);
let v89 : Int := IntKind.u8.wrap (x.getD (mulE v87.toNat 1) 0);
let v90 : List Int := v86.set (mulE v88.toNat 1) v89;
let v91 : Int := IntKind.i64.wrap (v88 + 1);
let v92 : Int := shrI IntKind.u64 (x.getD (mulE v87.toNat 1) 0) 8;
let v93 : Int := IntKind.u8.wrap v92;
let v94 : List Int := v90.set (mulE v91.toNat 1) v93;
let v95 : Int := IntKind.i64.wrap (v87 + 1);
let v96 : Int := IntKind.i64.wrap (2 * v95);
let v97 : Int := IntKind.u8.wrap (x.getD (mulE v95.toNat 1) 0);
let v98 : List Int := v94.set (mulE v96.toNat 1) v97;
let v99 : Int := IntKind.i64.wrap (v96 + 1);
let v100 : Int := shrI IntKind.u64 (x.getD (mulE v95.toNat 1) 0) 8;
let v101 : Int := IntKind.u8.wrap v100;
let v102 : List Int := v98.set (mulE v99.toNat 1) v101;
let v103 : Int := IntKind.i64.wrap (v95 + 1);
let v104 : Int := IntKind.i64.wrap (2 * v103);
let v105 : Int := IntKind.u8.wrap (x.getD (mulE v103.toNat 1) 0);
let v106 : List Int := v102.set (mulE v104.toNat 1) v105;
let v107 : Int := IntKind.i64.wrap (v104 + 1);
let v108 : Int := shrI IntKind.u64 (x.getD (mulE v103.toNat 1) 0) 8;
let v109 : Int := IntKind.u8.wrap v108;
let v110 : List Int := v106.set (mulE v107.toNat 1) v109;
let v111 : Int := IntKind.i64.wrap (v103 + 1);
let v112 : Int := IntKind.i64.wrap (2 * v111);
let v113 : Int := IntKind.u8.wrap (x.getD (mulE v111.toNat 1) 0);
let v114 : List Int := v110.set (mulE v112.toNat 1) v113;
let v115 : Int := IntKind.i64.wrap (v112 + 1);
let v116 : Int := shrI IntKind.u64 (x.getD (mulE v111.toNat 1) 0) 8;
let v117 : Int := IntKind.u8.wrap v116;
let v118 : List Int := v114.set (mulE v115.toNat 1) v117;
let v119 : Int := IntKind.i64.wrap (v111 + 1);
let v120 : Int := IntKind.i64.wrap (2 * v119);
let v121 : Int := IntKind.u8.wrap (x.getD (mulE v119.toNat 1) 0);
let v122 : List Int := v118.set (mulE v120.toNat 1) v121;
let v123 : Int := IntKind.i64.wrap (v120 + 1);
let v124 : Int := shrI IntKind.u64 (x.getD (mulE v119.toNat 1) 0) 8;
let v125 : Int := IntKind.u8.wrap v124;
let v126 : List Int := v122.set (mulE v123.toNat 1) v125;
k [DV.v (SV.one (At.ints IntKind.u8 32 v126))]


noncomputable def E68 (N : Nat) : Env := { Θ := Th, Γ := HC, K := K68, ν := N68, fuel := 60, lp := [] }


theorem f68_contract (N : Nat) (hΓ : CtxOk Try.prog HC) : Contract Try.prog 68 { sig := S68, impl := fun _ ds k => call (E68 N) S68 26 B68 R68 ds k } :=
  call_contract (E := E68 N) thOk hΓ mixed ok68.look ok68.body ok68.n ok68.rv ok68.name rfl (by decide) (loopsOk_of (l := [(0, B68_0)]) (by kernel_rfl) (allOk_skip rfl trivial))
theorem f68_raw_eq {R : Type} (N : Nat) (x : List Int) (k : List DV → Option R) : call (E68 N) S68 26 B68 R68 [.v (.one (.ints .u64 16 x))] k = f68_raw N x k := by kernel_rfl
end Go.Proofs.Ytcgolglcjfknpaa

/- What rime/rimeref01.Value comes to. MADE BY PROGRAM (wip/tools/mkfn.py, EngGen.lean). -/
namespace Go.Proofs.Ytcgolglcjfknpaa
open Go Go.Eng
set_option maxRecDepth 100000
set_option linter.unusedVariables false

noncomputable def f69_raw {R : Type} (N : Nat) (x : List Int) (k : List DV → Option R) : Option R :=
 let v0 : List Int := Go.Eng.sub x (plusO Off.z 1 Option.none) (mulE (Go.Eng.subN (hiNat Option.none 32) Option.none) 1);
bif okE v0 && Decidable.decide (v0.length ≤ 1000000) then bif okL (digL v0) then k [DV.v (SV.one (At.ints IntKind.u64 16 (refN (numD (digL v0) % p25519))))] else Option.none else Option.none


noncomputable def E69 (N : Nat) : Env := { Θ := Th, Γ := HC, K := K69, ν := N69, fuel := 0, lp := [] }


theorem f69_contract (N : Nat) (hΓ : CtxOk Try.prog HC) : Contract Try.prog 69 { sig := S69, impl := fun _ ds k => call (E69 N) S69 6 B69 R69 ds k } :=
  call_contract (E := E69 N) thOk hΓ mixed ok69.look ok69.body ok69.n ok69.rv ok69.name rfl (by decide) (loopsOk_of (l := []) (by kernel_rfl) trivial)
theorem f69_raw_eq {R : Type} (N : Nat) (x : List Int) (k : List DV → Option R) : call (E69 N) S69 6 B69 R69 [.v (.one (.ints .u8 32 x))] k = f69_raw N x k := by kernel_rfl
end Go.Proofs.Ytcgolglcjfknpaa

/- What rime/rimeref01.add comes to. MADE BY PROGRAM (wip/tools/mkfn.py, EngGen.lean). -/
namespace Go.Proofs.Ytcgolglcjfknpaa
open Go Go.Eng
set_option maxRecDepth 100000
set_option linter.unusedVariables false

def f98_0_sh : Shp := { n := 24, lo := 2, slots := [(2, .one (.fix (At.ptr 2 0 Off.z 16))), (3, .one (.fix (At.ptr 3 0 Off.z 16))), (4, .one (.fix (At.ptr 4 0 Off.z 16))), (5, .one (.fix (At.own 7))), (6, .one (.int IntKind.i64))], items := [(2, .obj [.ints IntKind.u64 16]), (3, .obj [.ints IntKind.u64 16]), (4, .obj [.ints IntKind.u64 16]), (7, .row IntKind.u64 1)] }
def f98_0_ex1 : Shp := { n := 24, lo := 2, slots := [(9, .one (.bool)), (2, .one (.fix (At.ptr 2 0 Off.z 16))), (3, .one (.fix (At.ptr 3 0 Off.z 16))), (4, .one (.fix (At.ptr 4 0 Off.z 16))), (5, .one (.fix (At.own 7))), (6, .one (.int IntKind.i64))], items := [(2, .obj [.ints IntKind.u64 16]), (3, .obj [.ints IntKind.u64 16]), (4, .obj [.ints IntKind.u64 16]), (7, .row IntKind.u64 1)] }
noncomputable def f98_0_st {R : Type} (N : Nat) (self : Int → List Int → List Int → List Int → List Int → Option R) (k1 : Bool → Int → List Int → List Int → List Int → List Int → Option R) (x1 : Int) (x2 : List Int) (x3 : List Int) (x4 : List Int) (x5 : List Int) : Option R :=
 bif Decidable.decide (x1 < 16) then
 bif Decidable.decide (0 ≤ x1) && Decidable.decide (x1 < 16) then
 bif Decidable.decide (0 ≤ x1) && Decidable.decide (x1 < 16) then
 bif Decidable.decide (0 ≤ x1) && Decidable.decide (x1 < nI (rowLen 1 x5)) then
 let v0 : Int := IntKind.i64.wrap (x1 + 1);
 let v1 : Int := IntKind.u64.wrap (x2.getD (mulE x1.toNat 1) 0 + x3.getD (mulE x1.toNat 1) 0);
 let v2 : List Int := x5.set (mulE x1.toNat 1) v1;
 self v0 x2 x3 x4 v2
 else Option.none
 else Option.none
 else Option.none
else k1 (Decidable.decide (x1 < 16)) x1 x2 x3 x4 x5
noncomputable def f98_0_lp {R : Type} (N : Nat) (k1 : Bool → Int → List Int → List Int → List Int → List Int → Option R) : Nat → Int → List Int → List Int → List Int → List Int → Option R
 | 0, _, _, _, _, _ => none
 | n + 1, x1, x2, x3, x4, x5 => f98_0_st N (f98_0_lp N k1 n) k1 x1 x2 x3 x4 x5
noncomputable def f98_0_F (N : Nat) : (R : Type) → List Leaf → (X → AS → Option R) → Option R := fun _ ls K => match ls with
 | [.i x1, .l x2, .l x3, .l x4, .l x5] => f98_0_lp N (fun y1 y2 y3 y4 y5 y6 => K (X.normal) (fill f98_0_ex1 [.b y1, .i y2, .l y3, .l y4, .l y5, .l y6])) N x1 x2 x3 x4 x5
 | _ => none
noncomputable def f98_raw {R : Type} (N : Nat) (x : List Int) (y : List Int) (k : List DV → Option R) : Option R :=
 f98_0_lp N (fun w0_1 w0_2 w0_3 w0_4 w0_5 w0_6 => bif okL w0_6 then k [DV.v (SV.one (At.ints IntKind.u64 16 (refN (numD w0_6 % p25519))))] else Option.none) N 0 x y (List.replicate 16 0) (zerosOf (mulE (Int.toNat 16) 1))


noncomputable def E98 (N : Nat) : Env := { Θ := Th, Γ := HC, K := K98, ν := N98, fuel := 0, lp := [(0, mkL N98_0 f98_0_sh (f98_0_F N))] }

theorem f98_0_st_eq {R : Type} (N : Nat) (K : X → AS → Option R) (n : Nat) (x1 : Int) (x2 : List Int) (x3 : List Int) (x4 : List Int) (x5 : List Int) : roundsOf (E98 N) N98_0 0 B98_0 K (n + 1) (fill f98_0_sh [.i x1, .l x2, .l x3, .l x4, .l x5]) = f98_0_st N (fun x1 x2 x3 x4 x5 => roundsOf (E98 N) N98_0 0 B98_0 K n (fill f98_0_sh [.i x1, .l x2, .l x3, .l x4, .l x5])) (fun y1 y2 y3 y4 y5 y6 => K (X.normal) (fill f98_0_ex1 [.b y1, .i y2, .l y3, .l y4, .l y5, .l y6])) x1 x2 x3 x4 x5 := by kernel_rfl
theorem f98_0_lp_eq {R : Type} (N : Nat) (K : X → AS → Option R) : ∀ (n : Nat) (x1 : Int) (x2 : List Int) (x3 : List Int) (x4 : List Int) (x5 : List Int), roundsOf (E98 N) N98_0 0 B98_0 K n (fill f98_0_sh [.i x1, .l x2, .l x3, .l x4, .l x5]) = f98_0_lp N (fun y1 y2 y3 y4 y5 y6 => K (X.normal) (fill f98_0_ex1 [.b y1, .i y2, .l y3, .l y4, .l y5, .l y6])) n x1 x2 x3 x4 x5
  | 0, _, _, _, _, _ => rfl
  | n + 1, x1, x2, x3, x4, x5 => by
    rw [f98_0_st_eq, f98_0_lp, show (fun x1 x2 x3 x4 x5 => roundsOf (E98 N) N98_0 0 B98_0 K n (fill f98_0_sh [.i x1, .l x2, .l x3, .l x4, .l x5])) = f98_0_lp N (fun y1 y2 y3 y4 y5 y6 => K (X.normal) (fill f98_0_ex1 [.b y1, .i y2, .l y3, .l y4, .l y5, .l y6])) n from by funext x1 x2 x3 x4 x5; exact f98_0_lp_eq N K n x1 x2 x3 x4 x5]
theorem f98_0_ok (N : Nat) (hlp : LoopsOk Try.prog (E98 N).lp B98_0) (hΓ : CtxOk Try.prog (E98 N).Γ) : LoopOk Try.prog (mkL N98_0 f98_0_sh (f98_0_F N)) 0 B98_0 := by
  refine loopOk_of (E := E98 N) thOk hΓ mixed hlp ?_
  intro R ls K r h
  unfold f98_0_F at h
  split at h
  · exact ⟨N, by rw [f98_0_lp_eq]; exact h⟩
  · cases h

theorem lok98_0 (N : Nat) (hΓ : CtxOk Try.prog HC) : LoopOk Try.prog (mkL N98_0 f98_0_sh (f98_0_F N)) 0 B98_0 := f98_0_ok N (loopsOk_of (l := []) (by kernel_rfl) trivial) hΓ
theorem f98_contract (N : Nat) (hΓ : CtxOk Try.prog HC) : Contract Try.prog 98 { sig := S98, impl := fun _ ds k => call (E98 N) S98 24 B98 R98 ds k } :=
  call_contract (E := E98 N) thOk hΓ mixed ok98.look ok98.body ok98.n ok98.rv ok98.name rfl (by decide) (loopsOk_of (l := [(0, B98_0)]) (by kernel_rfl) (allOk_cons (L := mkL N98_0 f98_0_sh (f98_0_F N)) rfl (lok98_0 N hΓ) trivial))
theorem f98_raw_eq {R : Type} (N : Nat) (x : List Int) (y : List Int) (k : List DV → Option R) : call (E98 N) S98 24 B98 R98 [.v (.one (.ints .u64 16 x)), .v (.one (.ints .u64 16 y))] k = f98_raw N x y k := by kernel_rfl
end Go.Proofs.Ytcgolglcjfknpaa

/- What rime/rimeref01.neg comes to. MADE BY PROGRAM (wip/tools/mkfn.py, EngGen.lean). -/
namespace Go.Proofs.Ytcgolglcjfknpaa
open Go Go.Eng
set_option maxRecDepth 100000
set_option linter.unusedVariables false

def f99_0_sh : Shp := { n := 32, lo := 1, slots := [(1, .one (.fix (At.ptr 1 0 Off.z 16))), (2, .one (.fix (At.ptr 2 0 Off.z 16))), (3, .one (.fix (At.ptr 3 0 Off.z 16))), (4, .one (.int IntKind.u64)), (5, .one (.int IntKind.i64))], items := [(1, .obj [.ints IntKind.u64 16]), (2, .obj [.ints IntKind.u64 16]), (3, .obj [.ints IntKind.u64 16])] }
def f99_0_ex1 : Shp := { n := 32, lo := 1, slots := [(8, .one (.bool)), (1, .one (.fix (At.ptr 1 0 Off.z 16))), (2, .one (.fix (At.ptr 2 0 Off.z 16))), (3, .one (.fix (At.ptr 3 0 Off.z 16))), (4, .one (.int IntKind.u64)), (5, .one (.int IntKind.i64))], items := [(1, .obj [.ints IntKind.u64 16]), (2, .obj [.ints IntKind.u64 16]), (3, .obj [.ints IntKind.u64 16])] }
noncomputable def f99_0_st {R : Type} (N : Nat) (self : Int → Int → List Int → List Int → List Int → Option R) (k1 : Bool → Int → Int → List Int → List Int → List Int → Option R) (x1 : Int) (x2 : Int) (x3 : List Int) (x4 : List Int) (x5 : List Int) : Option R :=
 bif Decidable.decide (x2 < 16) then
 bif Decidable.decide (0 ≤ x2) && Decidable.decide (x2 < 16) then
 bif Decidable.decide (0 ≤ x2) && Decidable.decide (x2 < 16) then
 let v0 : Int := IntKind.u64.wrap (pD x2 + 65536);
 let v1 : Int := IntKind.u64.wrap (v0 - x3.getD (mulE x2.toNat 1) 0);
 let v2 : Int := IntKind.u64.wrap (v1 - x1);
 let v3 : Int := IntKind.u64.wrap (v2.tdiv 65536);
 let v4 : Int := IntKind.u64.wrap (1 - v3);
 let v5 : Int := IntKind.i64.wrap (x2 + 1);
 let v6 : List Int := x5.set (mulE x2.toNat 1) (v2.tmod 65536);
 self v4 v5 x3 x4 v6
 else Option.none
 else Option.none
else k1 (Decidable.decide (x2 < 16)) x1 x2 x3 x4 x5
noncomputable def f99_0_lp {R : Type} (N : Nat) (k1 : Bool → Int → Int → List Int → List Int → List Int → Option R) : Nat → Int → Int → List Int → List Int → List Int → Option R
 | 0, _, _, _, _, _ => none
 | n + 1, x1, x2, x3, x4, x5 => f99_0_st N (f99_0_lp N k1 n) k1 x1 x2 x3 x4 x5
noncomputable def f99_0_F (N : Nat) : (R : Type) → List Leaf → (X → AS → Option R) → Option R := fun _ ls K => match ls with
 | [.i x1, .i x2, .l x3, .l x4, .l x5] => f99_0_lp N (fun y1 y2 y3 y4 y5 y6 => K (X.normal) (fill f99_0_ex1 [.b y1, .i y2, .i y3, .l y4, .l y5, .l y6])) N x1 x2 x3 x4 x5
 | _ => none
noncomputable def f99_raw {R : Type} (N : Nat) (x : List Int) (k : List DV → Option R) : Option R :=
 f99_0_lp N (fun w0_1 w0_2 w0_3 w0_4 w0_5 w0_6 => bif okD w0_6 then bif Decidable.decide (p25519 ≤ numD w0_6) then bif okD w0_6 && Decidable.decide (p25519 ≤ numD w0_6) then k [DV.v (SV.one (At.ints IntKind.u64 16 (refN (numD w0_6 - p25519))))] else Option.none else k [DV.v (SV.one (At.ints IntKind.u64 16 w0_6))] else Option.none) N 0 0 x (List.replicate 16 0) (List.replicate 16 0)


noncomputable def E99 (N : Nat) : Env := { Θ := Th, Γ := HB, K := K99, ν := N99, fuel := 0, lp := [(0, mkL N99_0 f99_0_sh (f99_0_F N))] }

theorem f99_0_st_eq {R : Type} (N : Nat) (K : X → AS → Option R) (n : Nat) (x1 : Int) (x2 : Int) (x3 : List Int) (x4 : List Int) (x5 : List Int) : roundsOf (E99 N) N99_0 0 B99_0 K (n + 1) (fill f99_0_sh [.i x1, .i x2, .l x3, .l x4, .l x5]) = f99_0_st N (fun x1 x2 x3 x4 x5 => roundsOf (E99 N) N99_0 0 B99_0 K n (fill f99_0_sh [.i x1, .i x2, .l x3, .l x4, .l x5])) (fun y1 y2 y3 y4 y5 y6 => K (X.normal) (fill f99_0_ex1 [.b y1, .i y2, .i y3, .l y4, .l y5, .l y6])) x1 x2 x3 x4 x5 := by kernel_rfl
theorem f99_0_lp_eq {R : Type} (N : Nat) (K : X → AS → Option R) : ∀ (n : Nat) (x1 : Int) (x2 : Int) (x3 : List Int) (x4 : List Int) (x5 : List Int), roundsOf (E99 N) N99_0 0 B99_0 K n (fill f99_0_sh [.i x1, .i x2, .l x3, .l x4, .l x5]) = f99_0_lp N (fun y1 y2 y3 y4 y5 y6 => K (X.normal) (fill f99_0_ex1 [.b y1, .i y2, .i y3, .l y4, .l y5, .l y6])) n x1 x2 x3 x4 x5
  | 0, _, _, _, _, _ => rfl
  | n + 1, x1, x2, x3, x4, x5 => by
    rw [f99_0_st_eq, f99_0_lp, show (fun x1 x2 x3 x4 x5 => roundsOf (E99 N) N99_0 0 B99_0 K n (fill f99_0_sh [.i x1, .i x2, .l x3, .l x4, .l x5])) = f99_0_lp N (fun y1 y2 y3 y4 y5 y6 => K (X.normal) (fill f99_0_ex1 [.b y1, .i y2, .i y3, .l y4, .l y5, .l y6])) n from by funext x1 x2 x3 x4 x5; exact f99_0_lp_eq N K n x1 x2 x3 x4 x5]
theorem f99_0_ok (N : Nat) (hlp : LoopsOk Try.prog (E99 N).lp B99_0) (hΓ : CtxOk Try.prog (E99 N).Γ) : LoopOk Try.prog (mkL N99_0 f99_0_sh (f99_0_F N)) 0 B99_0 := by
  refine loopOk_of (E := E99 N) thOk hΓ mixed hlp ?_
  intro R ls K r h
  unfold f99_0_F at h
  split at h
  · exact ⟨N, by rw [f99_0_lp_eq]; exact h⟩
  · cases h

theorem lok99_0 (N : Nat) (hΓ : CtxOk Try.prog HB) : LoopOk Try.prog (mkL N99_0 f99_0_sh (f99_0_F N)) 0 B99_0 := f99_0_ok N (loopsOk_of (l := []) (by kernel_rfl) trivial) hΓ
theorem f99_contract (N : Nat) (hΓ : CtxOk Try.prog HB) : Contract Try.prog 99 { sig := S99, impl := fun _ ds k => call (E99 N) S99 32 B99 R99 ds k } :=
  call_contract (E := E99 N) thOk hΓ mixed ok99.look ok99.body ok99.n ok99.rv ok99.name rfl (by decide) (loopsOk_of (l := [(0, B99_0)]) (by kernel_rfl) (allOk_cons (L := mkL N99_0 f99_0_sh (f99_0_F N)) rfl (lok99_0 N hΓ) trivial))
theorem f99_raw_eq {R : Type} (N : Nat) (x : List Int) (k : List DV → Option R) : call (E99 N) S99 32 B99 R99 [.v (.one (.ints .u64 16 x))] k = f99_raw N x k := by kernel_rfl
end Go.Proofs.Ytcgolglcjfknpaa

/- What rime/rimeref01.mul comes to. MADE BY PROGRAM (wip/tools/mkfn.py, EngGen.lean). -/
namespace Go.Proofs.Ytcgolglcjfknpaa
open Go Go.Eng
set_option maxRecDepth 100000
set_option linter.unusedVariables false

def f100_2_sh : Shp := { n := 38, lo := 2, slots := [(2, .one (.fix (At.ptr 2 0 Off.z 16))), (3, .one (.fix (At.ptr 3 0 Off.z 16))), (4, .one (.fix (At.ptr 4 0 Off.z 16))), (5, .one (.fix (At.own 8))), (6, .one (.int IntKind.i64)), (7, .one (.int IntKind.i64))], items := [(2, .obj [.ints IntKind.u64 16]), (3, .obj [.ints IntKind.u64 16]), (4, .obj [.ints IntKind.u64 16]), (8, .row IntKind.u64 1)] }
def f100_2_ex1 : Shp := { n := 38, lo := 2, slots := [(14, .one (.bool)), (2, .one (.fix (At.ptr 2 0 Off.z 16))), (3, .one (.fix (At.ptr 3 0 Off.z 16))), (4, .one (.fix (At.ptr 4 0 Off.z 16))), (5, .one (.fix (At.own 8))), (6, .one (.int IntKind.i64)), (7, .one (.int IntKind.i64))], items := [(2, .obj [.ints IntKind.u64 16]), (3, .obj [.ints IntKind.u64 16]), (4, .obj [.ints IntKind.u64 16]), (8, .row IntKind.u64 1)] }
noncomputable def f100_2_st {R : Type} (N : Nat) (self : Int → Int → List Int → List Int → List Int → List Int → Option R) (k1 : Bool → Int → Int → List Int → List Int → List Int → List Int → Option R) (x1 : Int) (x2 : Int) (x3 : List Int) (x4 : List Int) (x5 : List Int) (x6 : List Int) : Option R :=
 bif Decidable.decide (x2 < 16) then
 let v0 : Int := IntKind.i64.wrap (x1 + x2);
 bif Decidable.decide (0 ≤ v0) && Decidable.decide (v0 < nI (rowLen 1 x6)) then
 bif Decidable.decide (0 ≤ x1) && Decidable.decide (x1 < 16) then
 bif Decidable.decide (0 ≤ x2) && Decidable.decide (x2 < 16) then
 bif Decidable.decide (0 ≤ v0) && Decidable.decide (v0 < nI (rowLen 1 x6)) then
 let v1 : Int := IntKind.i64.wrap (x2 + 1);
 let v2 : Int := IntKind.u64.wrap (x3.getD (mulE x1.toNat 1) 0 * x4.getD (mulE x2.toNat 1) 0);
 let v3 : Int := IntKind.u64.wrap (x6.getD (mulE v0.toNat 1) 0 + v2);
 let v4 : List Int := x6.set (mulE v0.toNat 1) v3;
 self x1 v1 x3 x4 x5 v4
 else Option.none
 else Option.none
 else Option.none
 else Option.none
else k1 (Decidable.decide (x2 < 16)) x1 x2 x3 x4 x5 x6
noncomputable def f100_2_lp {R : Type} (N : Nat) (k1 : Bool → Int → Int → List Int → List Int → List Int → List Int → Option R) : Nat → Int → Int → List Int → List Int → List Int → List Int → Option R
 | 0, _, _, _, _, _, _ => none
 | n + 1, x1, x2, x3, x4, x5, x6 => f100_2_st N (f100_2_lp N k1 n) k1 x1 x2 x3 x4 x5 x6
noncomputable def f100_2_F (N : Nat) : (R : Type) → List Leaf → (X → AS → Option R) → Option R := fun _ ls K => match ls with
 | [.i x1, .i x2, .l x3, .l x4, .l x5, .l x6] => f100_2_lp N (fun y1 y2 y3 y4 y5 y6 y7 => K (X.normal) (fill f100_2_ex1 [.b y1, .i y2, .i y3, .l y4, .l y5, .l y6, .l y7])) N x1 x2 x3 x4 x5 x6
 | _ => none
def f100_0_sh : Shp := { n := 38, lo := 2, slots := [(2, .one (.fix (At.ptr 2 0 Off.z 16))), (3, .one (.fix (At.ptr 3 0 Off.z 16))), (4, .one (.fix (At.ptr 4 0 Off.z 16))), (5, .one (.fix (At.own 8))), (6, .one (.int IntKind.i64))], items := [(2, .obj [.ints IntKind.u64 16]), (3, .obj [.ints IntKind.u64 16]), (4, .obj [.ints IntKind.u64 16]), (8, .row IntKind.u64 1)] }
def f100_0_ex1 : Shp := { n := 38, lo := 2, slots := [(10, .one (.bool)), (2, .one (.fix (At.ptr 2 0 Off.z 16))), (3, .one (.fix (At.ptr 3 0 Off.z 16))), (4, .one (.fix (At.ptr 4 0 Off.z 16))), (5, .one (.fix (At.own 8))), (6, .one (.int IntKind.i64))], items := [(2, .obj [.ints IntKind.u64 16]), (3, .obj [.ints IntKind.u64 16]), (4, .obj [.ints IntKind.u64 16]), (8, .row IntKind.u64 1)] }
noncomputable def f100_0_st {R : Type} (N : Nat) (self : Int → List Int → List Int → List Int → List Int → Option R) (k1 : Bool → Int → List Int → List Int → List Int → List Int → Option R) (x1 : Int) (x2 : List Int) (x3 : List Int) (x4 : List Int) (x5 : List Int) : Option R :=
 bif Decidable.decide (x1 < 16) then
 f100_2_lp N
 (fun w0_1 w0_2 w0_3 w0_4 w0_5 w0_6 w0_7 =>
 let v1 : Int := IntKind.i64.wrap (w0_2 + 1);
 self v1 w0_4 w0_5 w0_6 w0_7)
 N x1 0 x2 x3 x4 x5
else k1 (Decidable.decide (x1 < 16)) x1 x2 x3 x4 x5
noncomputable def f100_0_lp {R : Type} (N : Nat) (k1 : Bool → Int → List Int → List Int → List Int → List Int → Option R) : Nat → Int → List Int → List Int → List Int → List Int → Option R
 | 0, _, _, _, _, _ => none
 | n + 1, x1, x2, x3, x4, x5 => f100_0_st N (f100_0_lp N k1 n) k1 x1 x2 x3 x4 x5
noncomputable def f100_0_F (N : Nat) : (R : Type) → List Leaf → (X → AS → Option R) → Option R := fun _ ls K => match ls with
 | [.i x1, .l x2, .l x3, .l x4, .l x5] => f100_0_lp N (fun y1 y2 y3 y4 y5 y6 => K (X.normal) (fill f100_0_ex1 [.b y1, .i y2, .l y3, .l y4, .l y5, .l y6])) N x1 x2 x3 x4 x5
 | _ => none
noncomputable def f100_raw {R : Type} (N : Nat) (x : List Int) (y : List Int) (k : List DV → Option R) : Option R :=
 f100_0_lp N (fun w0_1 w0_2 w0_3 w0_4 w0_5 w0_6 => bif okL w0_6 then k [DV.v (SV.one (At.ints IntKind.u64 16 (refN (numD w0_6 % p25519))))] else Option.none) N 0 x y (List.replicate 16 0) (zerosOf (mulE (Int.toNat 32) 1))


noncomputable def E100 (N : Nat) : Env := { Θ := Th, Γ := HC, K := K100, ν := N100, fuel := 0, lp := [(0, mkL N100_0 f100_0_sh (f100_0_F N)), (2, mkL N100_2 f100_2_sh (f100_2_F N))] }

theorem f100_2_st_eq {R : Type} (N : Nat) (K : X → AS → Option R) (n : Nat) (x1 : Int) (x2 : Int) (x3 : List Int) (x4 : List Int) (x5 : List Int) (x6 : List Int) : roundsOf (E100 N) N100_2 2 B100_2 K (n + 1) (fill f100_2_sh [.i x1, .i x2, .l x3, .l x4, .l x5, .l x6]) = f100_2_st N (fun x1 x2 x3 x4 x5 x6 => roundsOf (E100 N) N100_2 2 B100_2 K n (fill f100_2_sh [.i x1, .i x2, .l x3, .l x4, .l x5, .l x6])) (fun y1 y2 y3 y4 y5 y6 y7 => K (X.normal) (fill f100_2_ex1 [.b y1, .i y2, .i y3, .l y4, .l y5, .l y6, .l y7])) x1 x2 x3 x4 x5 x6 := by kernel_rfl
theorem f100_2_lp_eq {R : Type} (N : Nat) (K : X → AS → Option R) : ∀ (n : Nat) (x1 : Int) (x2 : Int) (x3 : List Int) (x4 : List Int) (x5 : List Int) (x6 : List Int), roundsOf (E100 N) N100_2 2 B100_2 K n (fill f100_2_sh [.i x1, .i x2, .l x3, .l x4, .l x5, .l x6]) = f100_2_lp N (fun y1 y2 y3 y4 y5 y6 y7 => K (X.normal) (fill f100_2_ex1 [.b y1, .i y2, .i y3, .l y4, .l y5, .l y6, .l y7])) n x1 x2 x3 x4 x5 x6
  | 0, _, _, _, _, _, _ => rfl
  | n + 1, x1, x2, x3, x4, x5, x6 => by
    rw [f100_2_st_eq, f100_2_lp, show (fun x1 x2 x3 x4 x5 x6 => roundsOf (E100 N) N100_2 2 B100_2 K n (fill f100_2_sh [.i x1, .i x2, .l x3, .l x4, .l x5, .l x6])) = f100_2_lp N (fun y1 y2 y3 y4 y5 y6 y7 => K (X.normal) (fill f100_2_ex1 [.b y1, .i y2, .i y3, .l y4, .l y5, .l y6, .l y7])) n from by funext x1 x2 x3 x4 x5 x6; exact f100_2_lp_eq N K n x1 x2 x3 x4 x5 x6]
theorem f100_2_ok (N : Nat) (hlp : LoopsOk Try.prog (E100 N).lp B100_2) (hΓ : CtxOk Try.prog (E100 N).Γ) : LoopOk Try.prog (mkL N100_2 f100_2_sh (f100_2_F N)) 2 B100_2 := by
  refine loopOk_of (E := E100 N) thOk hΓ mixed hlp ?_
  intro R ls K r h
  unfold f100_2_F at h
  split at h
  · exact ⟨N, by rw [f100_2_lp_eq]; exact h⟩
  · cases h
theorem f100_0_st_eq {R : Type} (N : Nat) (K : X → AS → Option R) (n : Nat) (x1 : Int) (x2 : List Int) (x3 : List Int) (x4 : List Int) (x5 : List Int) : roundsOf (E100 N) N100_0 0 B100_0 K (n + 1) (fill f100_0_sh [.i x1, .l x2, .l x3, .l x4, .l x5]) = f100_0_st N (fun x1 x2 x3 x4 x5 => roundsOf (E100 N) N100_0 0 B100_0 K n (fill f100_0_sh [.i x1, .l x2, .l x3, .l x4, .l x5])) (fun y1 y2 y3 y4 y5 y6 => K (X.normal) (fill f100_0_ex1 [.b y1, .i y2, .l y3, .l y4, .l y5, .l y6])) x1 x2 x3 x4 x5 := by kernel_rfl
theorem f100_0_lp_eq {R : Type} (N : Nat) (K : X → AS → Option R) : ∀ (n : Nat) (x1 : Int) (x2 : List Int) (x3 : List Int) (x4 : List Int) (x5 : List Int), roundsOf (E100 N) N100_0 0 B100_0 K n (fill f100_0_sh [.i x1, .l x2, .l x3, .l x4, .l x5]) = f100_0_lp N (fun y1 y2 y3 y4 y5 y6 => K (X.normal) (fill f100_0_ex1 [.b y1, .i y2, .l y3, .l y4, .l y5, .l y6])) n x1 x2 x3 x4 x5
  | 0, _, _, _, _, _ => rfl
  | n + 1, x1, x2, x3, x4, x5 => by
    rw [f100_0_st_eq, f100_0_lp, show (fun x1 x2 x3 x4 x5 => roundsOf (E100 N) N100_0 0 B100_0 K n (fill f100_0_sh [.i x1, .l x2, .l x3, .l x4, .l x5])) = f100_0_lp N (fun y1 y2 y3 y4 y5 y6 => K (X.normal) (fill f100_0_ex1 [.b y1, .i y2, .l y3, .l y4, .l y5, .l y6])) n from by funext x1 x2 x3 x4 x5; exact f100_0_lp_eq N K n x1 x2 x3 x4 x5]
theorem f100_0_ok (N : Nat) (hlp : LoopsOk Try.prog (E100 N).lp B100_0) (hΓ : CtxOk Try.prog (E100 N).Γ) : LoopOk Try.prog (mkL N100_0 f100_0_sh (f100_0_F N)) 0 B100_0 := by
  refine loopOk_of (E := E100 N) thOk hΓ mixed hlp ?_
  intro R ls K r h
  unfold f100_0_F at h
  split at h
  · exact ⟨N, by rw [f100_0_lp_eq]; exact h⟩
  · cases h

theorem lok100_2 (N : Nat) (hΓ : CtxOk Try.prog HC) : LoopOk Try.prog (mkL N100_2 f100_2_sh (f100_2_F N)) 2 B100_2 := f100_2_ok N (loopsOk_of (l := []) (by kernel_rfl) trivial) hΓ
theorem lok100_0 (N : Nat) (hΓ : CtxOk Try.prog HC) : LoopOk Try.prog (mkL N100_0 f100_0_sh (f100_0_F N)) 0 B100_0 := f100_0_ok N (loopsOk_of (l := [(2, B100_2)]) (by kernel_rfl) (allOk_cons (L := mkL N100_2 f100_2_sh (f100_2_F N)) rfl (lok100_2 N hΓ) trivial)) hΓ
theorem f100_contract (N : Nat) (hΓ : CtxOk Try.prog HC) : Contract Try.prog 100 { sig := S100, impl := fun _ ds k => call (E100 N) S100 38 B100 R100 ds k } :=
  call_contract (E := E100 N) thOk hΓ mixed ok100.look ok100.body ok100.n ok100.rv ok100.name rfl (by decide) (loopsOk_of (l := [(0, B100_0), (2, B100_2)]) (by kernel_rfl) (allOk_cons (L := mkL N100_0 f100_0_sh (f100_0_F N)) rfl (lok100_0 N hΓ) (allOk_cons (L := mkL N100_2 f100_2_sh (f100_2_F N)) rfl (lok100_2 N hΓ) trivial)))
theorem f100_raw_eq {R : Type} (N : Nat) (x : List Int) (y : List Int) (k : List DV → Option R) : call (E100 N) S100 38 B100 R100 [.v (.one (.ints .u64 16 x)), .v (.one (.ints .u64 16 y))] k = f100_raw N x y k := by kernel_rfl
end Go.Proofs.Ytcgolglcjfknpaa

/- The field's laws, as numbers. -/
namespace Go.Proofs.Ytcgolglcjfknpaa
open Go Go.Eng
set_option maxRecDepth 100000

theorem addN_comm (a b : Nat) : addN a b = addN b a := by rw [addN_def, addN_def, Nat.add_comm]
theorem mulN_comm (a b : Nat) : mulN a b = mulN b a := by rw [mulN_def, mulN_def, Nat.mul_comm]
theorem addN_assoc (a b c : Nat) : addN (addN a b) c = addN a (addN b c) := by
  simp only [addN_def, Nat.mod_add_mod, Nat.add_mod_mod, Nat.add_assoc]
theorem mulN_assoc (a b c : Nat) : mulN (mulN a b) c = mulN a (mulN b c) := by
  simp only [mulN_def, Nat.mod_mul_mod, Nat.mul_mod_mod, Nat.mul_assoc]
theorem mulN_add (a b c : Nat) : mulN a (addN b c) = addN (mulN a b) (mulN a c) := by
  simp only [mulN_def, addN_def, Nat.mul_mod_mod, Nat.mod_add_mod, Nat.add_mod_mod, Nat.mul_add]
theorem subN_addN {a b : Nat} (hb : b < p25519) : subN (addN a b) b = addN a 0 := by
  rw [subN_def, addN_def, addN_def]; unfold p25519 at *; omega
theorem addN_neg {a : Nat} (ha : a < p25519) : addN a (subN 0 a) = 0 := by
  rw [subN_def, addN_def]; unfold p25519 at *; omega
theorem mulN_one {a : Nat} (ha : a < p25519) : mulN a 1 = a := by
  rw [mulN_def, Nat.mul_one, Nat.mod_eq_of_lt ha]
theorem pw_zero : pw 0 pm2 = 0 := by rw [pw_pm]; decide +kernel
theorem mulN_inv {a : Nat} (ha : a < p25519) (h0 : a ≠ 0) : mulN a (pw a pm2) = 1 := by
  rw [mulN_def, pw_eq, Nat.mul_mod_mod, Nat.mul_comm, ← Nat.pow_succ]
  exact fermat prm_p (fun hd => h0 (Nat.eq_zero_of_dvd_of_lt hd ha))
end Go.Proofs.Ytcgolglcjfknpaa

/- The document's numbers: of bytes, as bytes, sums, opposites, products. -/
namespace Go.Proofs.Ytcgolglcjfknpaa
open Go Go.Eng
set_option maxRecDepth 100000
set_option linter.unusedVariables false

/-! ### of bytes -/
theorem okB_len' {x : List Int} (h : okB x = true) : x.length = 32 := by
  obtain ⟨l, rfl, hl, _⟩ := okB_of h
  rw [nats_length]; exact hl
theorem sub32' {x : List Int} (h : okB x = true) : Go.Eng.sub x (plusO Off.z 1 Option.none) (mulE (Go.Eng.subN (hiNat Option.none 32) Option.none) 1) = x := by
  show x.take 32 = x
  rw [List.take_of_length_le (Nat.le_of_eq (okB_len' h))]
theorem okE_okB' {x : List Int} (h : okB x = true) : okE x = true := by
  have hl := okB_len' h
  unfold okB at h
  rw [Bool.and_eq_true] at h
  unfold okE
  rw [h.2, decide_eq_true (by omega)]; rfl
theorem okL_digL {e : List Int} (h : e.length ≤ 63) : okL (digL e) = true := by
  rw [digL_def]
  exact okL_nats (by rw [digs_length]; omega) fun b hb => by have := digs_lt (by decide) b hb; omega
theorem numD_digL {e : List Int} (he : okE e = true) : numD (digL e) = numB e := by
  obtain ⟨_, l, rfl, hb⟩ := okE_of he
  rw [digL_def, numD_nats, digs_val, numB_nats, nats_length]
  have := valB_lt (b := 256) (by decide) hb
  refine Nat.mod_eq_of_lt (Nat.lt_of_lt_of_le this ?_)
  rw [show (65536 : Nat) = 256 ^ 2 by decide, ← Nat.pow_mul]
  exact Nat.pow_le_pow_right (by decide) (by omega)
noncomputable def I69 : (R : Type) → List DV → (List DV → Option R) → Option R := fun _ ds k => match ds with
  | [.v (.one (.ints .u8 32 x))] => bif okB x then k [.v (.one (.ints .u64 16 (refN (vB x))))] else none
  | _ => none
theorem c69 : Contract Try.prog 69 { sig := S69, impl := I69 } := by
  refine Contract.refine fun R ds k r h => ⟨_, f69_contract 0 HC_ok, ?_⟩
  unfold I69 at h
  split at h
  · rename_i x
    rcases hc : okB x with _ | _
    · rw [hc] at h; cases h
    · rw [hc, cond_true] at h
      rw [f69_raw_eq]
      unfold f69_raw
      dsimp only
      have hl := okB_len' hc
      rw [sub32' hc, okE_okB' hc, decide_eq_true (show x.length ≤ 1000000 by omega), okL_digL (by omega), numD_digL (okE_okB' hc), ← vB_def]
      exact h
  · cases h

/-! ### as bytes -/
theorem digs_pairs : ∀ (l : List Nat), (∀ x ∈ l, x < 65536) → digs 256 (2 * l.length) (valB 65536 l) = l.flatMap fun a => [a % 256, a / 256 % 256]
  | [], _ => rfl
  | a :: l, h => by
    have ha := h a (.head _)
    have ih := digs_pairs l fun x hx => h x (.tail _ hx)
    rw [List.flatMap_cons, ← ih, List.length_cons, show 2 * (l.length + 1) = 2 * l.length + 2 by omega, valB]
    simp only [digs]
    generalize valB 65536 l = V
    rw [show (a + 65536 * V) % 256 = a % 256 by omega, show (a + 65536 * V) / 256 % 256 = a / 256 % 256 by omega, show (a + 65536 * V) / 256 / 256 = V by omega]
    rfl
def backL (a0 a1 a2 a3 a4 a5 a6 a7 a8 a9 a10 a11 a12 a13 a14 a15 : Int) : List Int :=
  [a0, a1, a2, a3, a4, a5, a6, a7, a8, a9, a10, a11, a12, a13, a14, a15].flatMap fun a => [IntKind.u8.wrap a, IntKind.u8.wrap (shrI .u64 a 8)]
theorem back_eq {R : Type} (a0 a1 a2 a3 a4 a5 a6 a7 a8 a9 a10 a11 a12 a13 a14 a15 : Int) (k : List DV → Option R) : f68_raw 0 [a0, a1, a2, a3, a4, a5, a6, a7, a8, a9, a10, a11, a12, a13, a14, a15] k = k [.v (.one (.ints .u8 32 (backL a0 a1 a2 a3 a4 a5 a6 a7 a8 a9 a10 a11 a12 a13 a14 a15)))] := by kernel_rfl
theorem back_pair (l : List Nat) : (nats l).flatMap (fun a => [IntKind.u8.wrap a, IntKind.u8.wrap (shrI .u64 a 8)]) = nats (l.flatMap fun a => [a % 256, a / 256 % 256]) := by
  induction l with
  | nil => rfl
  | cons a l ih =>
    show [IntKind.u8.wrap (a : Int), IntKind.u8.wrap (shrI .u64 (a : Int) 8)] ++ (nats l).flatMap _ = _
    rw [ih, wm8, show shrI .u64 (a : Int) 8 = ((a / 2 ^ 8 : Nat) : Int) from shrN (k := .u64) (m := 8) (by decide) a, wm8]
    rfl
theorem cons_of {α : Type} {l : List α} {n : Nat} (h : l.length = n + 1) : ∃ a t, l = a :: t ∧ t.length = n := by
  cases l with
  | nil => simp at h
  | cons a t => exact ⟨a, t, rfl, by simpa using h⟩
noncomputable def I68 : (R : Type) → List DV → (List DV → Option R) → Option R := fun _ ds k => match ds with
  | [.v (.one (.ints .u64 16 x))] => bif okD x then k [.v (.one (.ints .u8 32 (feN (numD x))))] else none
  | _ => none
theorem c68 : Contract Try.prog 68 { sig := S68, impl := I68 } := by
  refine Contract.refine fun R ds k r h => ⟨_, f68_contract 0 HC_ok, ?_⟩
  unfold I68 at h
  split at h
  · rename_i x
    rcases hc : okD x with _ | _
    · rw [hc] at h; cases h
    · rw [hc, cond_true] at h
      rw [f68_raw_eq]
      obtain ⟨l, rfl, hl, hb⟩ := okD_of hc
      have hp := digs_pairs l hb
      rw [hl] at hp
      rw [numD_nats, feN_def, show (32 : Nat) = 2 * 16 from rfl, hp, ← back_pair] at h
      obtain ⟨a0, l1, rfl, k1⟩ := cons_of hl
      obtain ⟨a1, l2, rfl, k2⟩ := cons_of k1
      obtain ⟨a2, l3, rfl, k3⟩ := cons_of k2
      obtain ⟨a3, l4, rfl, k4⟩ := cons_of k3
      obtain ⟨a4, l5, rfl, k5⟩ := cons_of k4
      obtain ⟨a5, l6, rfl, k6⟩ := cons_of k5
      obtain ⟨a6, l7, rfl, k7⟩ := cons_of k6
      obtain ⟨a7, l8, rfl, k8⟩ := cons_of k7
      obtain ⟨a8, l9, rfl, k9⟩ := cons_of k8
      obtain ⟨a9, l10, rfl, k10⟩ := cons_of k9
      obtain ⟨a10, l11, rfl, k11⟩ := cons_of k10
      obtain ⟨a11, l12, rfl, k12⟩ := cons_of k11
      obtain ⟨a12, l13, rfl, k13⟩ := cons_of k12
      obtain ⟨a13, l14, rfl, k14⟩ := cons_of k13
      obtain ⟨a14, l15, rfl, k15⟩ := cons_of k14
      obtain ⟨a15, l16, rfl, k16⟩ := cons_of k15
      obtain rfl := List.eq_nil_of_length_eq_zero k16
      rw [← h]
      exact back_eq _ _ _ _ _ _ _ _ _ _ _ _ _ _ _ _ k
  · cases h

/-! ### sums -/
def addF (x y : List Nat) (i : Nat) : List Nat := (List.range 16).map fun j => if j < i then x.getD j 0 + 1 * y.getD j 0 else 0
theorem addF_len (x y : List Nat) (i : Nat) : (addF x y i).length = 16 := by simp [addF]
theorem addF_get (x y : List Nat) (i j : Nat) (hj : j < 16) : (addF x y i).getD j 0 = if j < i then x.getD j 0 + 1 * y.getD j 0 else 0 := by
  rw [List.getD_eq_getElem?_getD, List.getElem?_eq_getElem (by rw [addF_len]; exact hj), Option.getD_some]
  simp [addF]
theorem addF_set (x y : List Nat) {i : Nat} (hi : i < 16) : (addF x y i).set i (x.getD i 0 + y.getD i 0) = addF x y (i + 1) := by
  apply ext_getD (by rw [List.length_set, addF_len, addF_len])
  intro j hj
  rw [List.length_set, addF_len] at hj
  rw [getD_set (by rw [addF_len]; exact hi), addF_get _ _ _ _ hj, addF_get _ _ _ _ hj]
  by_cases h : j = i
  · subst h; rw [if_pos rfl, if_pos (by omega)]; omega
  · rw [if_neg h]
    by_cases h2 : j < i
    · rw [if_pos h2, if_pos (by omega)]
    · rw [if_neg h2, if_neg (by omega)]
theorem addF_val {x y : List Nat} (hx : x.length = 16) (hy : y.length = 16) : valB 65536 (addF x y 16) = valB 65536 x + valB 65536 y := by
  have e : addF x y 16 = (List.range 16).map fun j => x.getD j 0 + 1 * y.getD j 0 := by
    unfold addF
    apply List.map_congr_left
    intro j hj
    rw [if_pos (by simpa using hj)]
  rw [e, valB_map_add, valB_range, valB_range, List.take_of_length_le (by omega), List.take_of_length_le (by omega), Nat.one_mul]
theorem f98_in {R : Type} (N : Nat) (k1 : Bool → Int → List Int → List Int → List Int → List Int → Option R) (z : List Int) {x y : List Nat} (hx : ∀ a ∈ x, a < 65536) (hy : ∀ a ∈ y, a < 65536) :
    ∀ j i : Nat, i + j = 16 → ∀ fuel, j < fuel → f98_0_lp N k1 fuel (i : Int) (nats x) (nats y) z (nats (addF x y i)) = k1 false 16 (nats x) (nats y) z (nats (addF x y 16)) := by
  intro j
  induction j with
  | zero =>
    intro i hi fuel hf
    obtain ⟨f, rfl⟩ : ∃ f, fuel = f + 1 := ⟨fuel - 1, by omega⟩
    have : i = 16 := by omega
    subst this
    rfl
  | succ j ih =>
    intro i hi fuel hf
    obtain ⟨f, rfl⟩ : ∃ f, fuel = f + 1 := ⟨fuel - 1, by omega⟩
    have h1 := getD_lt (by decide) hx i
    have h2 := getD_lt (by decide) hy i
    show f98_0_st N (f98_0_lp N k1 f) k1 _ _ _ _ _ = _
    unfold f98_0_st
    rw [show nI (rowLen 1 (nats (addF x y i))) = 16 from by show (((nats (addF x y i)).length : Nat) : Int) = _; rw [nats_length, addF_len]; rfl]
    rw [decide_eq_true (show (i : Int) < 16 by omega), decide_eq_true (show 0 ≤ (i : Int) by omega)]
    simp only [Bool.and_self, cond_true]
    rw [show mulE (Int.toNat (i : Int)) 1 = i from rfl, nats_getD, nats_getD, wrapI (by omega) (by omega), show ((x.getD i 0 : Nat) : Int) + ((y.getD i 0 : Nat) : Int) = ((x.getD i 0 + y.getD i 0 : Nat) : Int) from rfl, w64 (by omega), nats_set, addF_set x y (by omega)]
    exact ih (i + 1) (by omega) f (by omega)
theorem mem_getD {l : List Nat} {a : Nat} (h : a ∈ l) : ∃ j, j < l.length ∧ l.getD j 0 = a := by
  obtain ⟨j, hj, rfl⟩ := List.getElem_of_mem h
  exact ⟨j, hj, by rw [List.getD_eq_getElem?_getD, List.getElem?_eq_getElem hj]; rfl⟩
noncomputable def I98 : (R : Type) → List DV → (List DV → Option R) → Option R := fun _ ds k => match ds with
  | [.v (.one (.ints .u64 16 x)), .v (.one (.ints .u64 16 y))] => bif okD x && okD y then k [.v (.one (.ints .u64 16 (refN (addN (numD x) (numD y)))))] else none
  | _ => none
theorem c98 : Contract Try.prog 98 { sig := S98, impl := I98 } := by
  refine Contract.refine fun R ds k r h => ⟨_, f98_contract 17 HC_ok, ?_⟩
  unfold I98 at h
  split at h
  · rename_i x y
    rcases hc : okD x && okD y with _ | _
    · rw [hc] at h; cases h
    · rw [hc, cond_true] at h
      rw [Bool.and_eq_true] at hc
      rw [f98_raw_eq]
      obtain ⟨l, rfl, hl, hb⟩ := okD_of hc.1
      obtain ⟨m, rfl, hm, hb2⟩ := okD_of hc.2
      rw [numD_nats, numD_nats, addN_def] at h
      unfold f98_raw
      have h0 : zerosOf (mulE (Int.toNat 16) 1) = nats (addF l m 0) := by
        unfold addF; simp [nats, zerosOf]; rfl
      rw [h0]
      refine Eq.trans (f98_in 17 _ _ hb hb2 16 0 rfl 17 (by decide)) ?_
      rw [okL_nats (by rw [addF_len]; decide) (fun b hb3 => by
        obtain ⟨j, hj, rfl⟩ := mem_getD hb3
        rw [addF_len] at hj
        rw [addF_get _ _ _ _ hj, if_pos hj]
        have h1 := getD_lt (by decide) hb j
        have h2 := getD_lt (by decide) hb2 j
        omega), cond_true, numD_nats, addF_val hl hm]
      exact h
  · cases h

/-! ### opposites -/
theorem f99_in {R : Type} (N : Nat) (k1 : Bool → Int → Int → List Int → List Int → List Int → Option R) (z : List Int) :
    ∀ (B P A T : List Nat) (b : Nat), P.length = A.length → A.length + B.length = 16 → T.length = B.length → (∀ x ∈ B, x < 65536) → b ≤ 1 → ∀ fuel, B.length < fuel →
      f99_0_lp N k1 fuel (b : Int) (A.length : Int) (nats (P ++ B)) z (nats (A ++ T)) = k1 false ((subG (pDl.drop A.length) B b).2 : Int) 16 (nats (P ++ B)) z (nats (A ++ (subG (pDl.drop A.length) B b).1)) := by
  intro B
  induction B with
  | nil =>
    intro P A T b hP hA hT _ hb fuel hf
    obtain ⟨f, rfl⟩ : ∃ f, fuel = f + 1 := ⟨fuel - 1, by omega⟩
    have hl : A.length = 16 := by simpa using hA
    have hT0 : T = [] := List.eq_nil_of_length_eq_zero (by simpa using hT)
    subst hT0
    show f99_0_st N (f99_0_lp N k1 f) k1 _ _ _ _ _ = _
    unfold f99_0_st
    rw [hl]
    rfl
  | cons x B ih =>
    intro P A T b hP hA hT hB hb fuel hf
    obtain ⟨f, rfl⟩ : ∃ f, fuel = f + 1 := ⟨fuel - 1, by omega⟩
    rw [List.length_cons] at hA hf hT
    obtain ⟨t, T, rfl⟩ : ∃ t T', T = t :: T' := by
      cases T with
      | nil => simp at hT
      | cons t T => exact ⟨t, T, rfl⟩
    rw [List.length_cons] at hT
    have hi : A.length < 16 := by omega
    have hx := hB x (.head _)
    have hq := pDl_getlt A.length
    show f99_0_st N (f99_0_lp N k1 f) k1 _ _ _ _ _ = _
    unfold f99_0_st
    rw [decide_eq_true (show (A.length : Int) < 16 by omega), decide_eq_true (show 0 ≤ (A.length : Int) by omega), cond_true, Bool.and_self, cond_true, cond_true]
    dsimp only
    rw [show (nats (P ++ x :: B)).getD (mulE (Int.toNat (A.length : Int)) 1) 0 = (x : Int) by rw [← hP]; exact ngetD, pD_get _ hi, pDl_split hi]
    generalize pDl.getD A.length 0 = q at hq
    rw [show IntKind.u64.wrap ((q : Int) + 65536) = ((q + 65536 : Nat) : Int) from w64 (n := q + 65536) (by omega)]
    rw [show ((q + 65536 : Nat) : Int) - (x : Int) = ((q + 65536 - x : Nat) : Int) by omega, w64 (n := q + 65536 - x) (by omega)]
    rw [show ((q + 65536 - x : Nat) : Int) - (b : Int) = ((q + 65536 - x - b : Nat) : Int) by omega, w64 (n := q + 65536 - x - b) (by omega)]
    have hv : q + 65536 - x - b < 131072 := by omega
    simp only [subG]
    generalize q + 65536 - x - b = v at hv
    rw [show ((v : Int).tdiv 65536) = ((v / 65536 : Nat) : Int) from rfl, w64 (n := v / 65536) (by omega), show (1 : Int) - ((v / 65536 : Nat) : Int) = ((1 - v / 65536 : Nat) : Int) by omega, w64 (n := 1 - v / 65536) (by omega)]
    rw [show ((v : Int).tmod 65536) = ((v % 65536 : Nat) : Int) from rfl, nset, wrapI (a := (A.length : Int) + 1) (by omega) (by omega)]
    have := ih (P ++ [x]) (A ++ [v % 65536]) T (1 - v / 65536) (by rw [app_len, app_len, hP]) (by rw [app_len]; omega) (by omega) (fun y hy => hB y (.tail _ hy)) (by omega) f (by omega)
    rw [app_len, ← app_cons, ← app_cons, show ((A.length + 1 : Nat) : Int) = (A.length : Int) + 1 from rfl, ← app_cons] at this
    exact this
noncomputable def I99 : (R : Type) → List DV → (List DV → Option R) → Option R := fun _ ds k => match ds with
  | [.v (.one (.ints .u64 16 x))] => bif okD x && decide (numD x < p25519) then k [.v (.one (.ints .u64 16 (refN (subN 0 (numD x)))))] else none
  | _ => none
theorem c99 : Contract Try.prog 99 { sig := S99, impl := I99 } := by
  refine Contract.refine fun R ds k r h => ⟨_, f99_contract 17 HB_ok, ?_⟩
  unfold I99 at h
  split at h
  · rename_i x
    rcases hc : okD x && decide (numD x < p25519) with _ | _
    · rw [hc] at h; cases h
    · rw [hc, cond_true] at h
      rw [Bool.and_eq_true, decide_eq_true_eq] at hc
      rw [f99_raw_eq]
      obtain ⟨l, rfl, hl, hb⟩ := okD_of hc.1
      have hlt := hc.2
      rw [numD_nats] at h hlt
      unfold f99_raw
      have h0 : List.replicate 16 (0 : Int) = nats (List.replicate 16 0) := rfl
      conv => lhs; rw [h0]
      refine Eq.trans (f99_in 17 _ _ l [] [] (List.replicate 16 0) 0 rfl (by simpa using hl) (by rw [hl]; rfl) hb (by decide) 17 (by omega)) ?_
      obtain ⟨g1, g2, g3⟩ := sub_fit (l := pDl) (m := l) (by rw [hl, pDl_len]) pDl_lt hb (by rw [pDl_val]; omega)
      rw [pDl_len] at g1
      rw [pDl_val] at g3
      show (bif okD (nats (subG pDl l 0).1) then _ else _) = _
      rw [nats_refN g1 g2, g3, okD_refN, cond_true]
      have hbig : p25519 < 2 ^ 256 := by decide
      rw [show nats ([] ++ (subG (pDl.drop ([] : List Nat).length) l 0).1) = refN (p25519 - valB 65536 l) by
        show nats (subG pDl l 0).1 = _
        rw [nats_refN g1 g2, g3]]
      rw [numD_refN (by omega), okD_refN, Bool.true_and, ← h, subN_def, Nat.zero_add]
      by_cases hz : valB 65536 l = 0
      · rw [hz, Nat.sub_zero, decide_eq_true (Nat.le_refl _), Nat.mod_self, Nat.sub_self]; rfl
      · rw [decide_eq_false (show ¬ p25519 ≤ p25519 - valB 65536 l by omega), cond_false, Nat.mod_eq_of_lt (by omega)]
  · cases h

/-! ### products -/
theorem valB_set_add (b : Nat) : ∀ (L : List Nat) (s d : Nat), s < L.length → valB b (L.set s (L.getD s 0 + d)) = valB b L + d * b ^ s
  | [], _, _, h => by simp at h
  | x :: L, 0, d, _ => by
    simp only [List.set_cons_zero, List.getD_cons_zero, valB, Nat.pow_zero, Nat.mul_one]
    omega
  | x :: L, s + 1, d, h => by
    simp only [List.set_cons_succ, List.getD_cons_succ, valB]
    rw [valB_set_add b L s d (by simpa using h), Nat.mul_add, Nat.pow_succ, Nat.mul_comm (b ^ s) b, Nat.mul_left_comm b d]
    omega
theorem drop_val (l : List Nat) {k : Nat} (h : k < l.length) : valB 65536 (l.drop k) = l.getD k 0 + 65536 * valB 65536 (l.drop (k + 1)) := by
  rw [List.drop_eq_getElem_cons h, valB, List.getD_eq_getElem?_getD, List.getElem?_eq_getElem h]; rfl
theorem set_le {L : List Nat} {s y M : Nat} (h : ∀ x ∈ L, x ≤ M) (hy : y ≤ M) : ∀ x ∈ L.set s y, x ≤ M := by
  intro x hx
  rcases List.mem_or_eq_of_mem_set hx with hx | rfl
  · exact h x hx
  · exact hy
theorem f100_inner {R : Type} (N : Nat) (k1 : Bool → Int → Int → List Int → List Int → List Int → List Int → Option R) (z : List Int) {x y : List Nat} (hx : ∀ a ∈ x, a < 65536) (hy : ∀ a ∈ y, a < 65536) (hyl : y.length = 16) {i : Nat} (hi : i < 16) :
    ∀ j k : Nat, k + j = 16 → ∀ L : List Nat, L.length = 32 → (∀ a ∈ L, a ≤ (16 * i + k) * 4294836225) → ∀ fuel, j < fuel →
      ∃ L' : List Nat, L'.length = 32 ∧ (∀ a ∈ L', a ≤ (16 * i + 16) * 4294836225) ∧ valB 65536 L' = valB 65536 L + x.getD i 0 * 65536 ^ i * (65536 ^ k * valB 65536 (y.drop k)) ∧
        f100_2_lp N k1 fuel (i : Int) (k : Int) (nats x) (nats y) z (nats L) = k1 false (i : Int) 16 (nats x) (nats y) z (nats L') := by
  intro j
  induction j with
  | zero =>
    intro k hk L hL hb fuel hf
    obtain ⟨f, rfl⟩ : ∃ f, fuel = f + 1 := ⟨fuel - 1, by omega⟩
    have : k = 16 := by omega
    subst this
    refine ⟨L, hL, hb, ?_, rfl⟩
    rw [List.drop_of_length_le (by omega)]; simp [valB]
  | succ j ih =>
    intro k hk L hL hb fuel hf
    obtain ⟨f, rfl⟩ : ∃ f, fuel = f + 1 := ⟨fuel - 1, by omega⟩
    have h1 := getD_lt (by decide) hx i
    have h2 := getD_lt (by decide) hy k
    have h3 : x.getD i 0 * y.getD k 0 ≤ 4294836225 := Nat.mul_le_mul (show x.getD i 0 ≤ 65535 by omega) (show y.getD k 0 ≤ 65535 by omega)
    have h4 : L.getD (i + k) 0 ≤ (16 * i + k) * 4294836225 := by
      obtain ⟨a, ha⟩ : ∃ a, L[i + k]? = some a := ⟨L[i + k]'(by omega), List.getElem?_eq_getElem _⟩
      rw [List.getD_eq_getElem?_getD, ha]
      exact hb a (List.mem_of_getElem? ha)
    have h5 : L.getD (i + k) 0 + x.getD i 0 * y.getD k 0 ≤ (16 * i + (k + 1)) * 4294836225 := by omega
    obtain ⟨L', g1, g2, g3, g4⟩ := ih (k + 1) (by omega) (L.set (i + k) (L.getD (i + k) 0 + x.getD i 0 * y.getD k 0)) (by rw [List.length_set]; exact hL) (set_le (fun a ha => Nat.le_trans (hb a ha) (by omega)) h5) f (by omega)
    refine ⟨L', g1, g2, ?_, ?_⟩
    · rw [g3, valB_set_add _ _ _ _ (by omega), drop_val y (k := k) (by omega), Nat.pow_add, Nat.pow_succ, Nat.mul_add, Nat.mul_add]
      rw [Nat.add_assoc]
      refine congrArg (valB 65536 L + ·) ?_
      refine congr (congrArg HAdd.hAdd ?_) ?_ <;> ac_rfl
    · rw [← g4]
      show f100_2_st N (f100_2_lp N k1 f) k1 _ _ _ _ _ _ = _
      unfold f100_2_st
      rw [show nI (rowLen 1 (nats L)) = 32 from by show (((nats L).length : Nat) : Int) = _; rw [nats_length, hL]; rfl]
      rw [wrapI (a := (i : Int) + (k : Int)) (by omega) (by omega), show (i : Int) + (k : Int) = ((i + k : Nat) : Int) from rfl]
      dsimp only
      rw [decide_eq_true (show (k : Int) < 16 by omega), decide_eq_true (show (0 : Int) ≤ ((i + k : Nat) : Int) by omega), decide_eq_true (show ((i + k : Nat) : Int) < 32 by omega), decide_eq_true (show (0 : Int) ≤ (i : Int) by omega), decide_eq_true (show (i : Int) < 16 by omega), decide_eq_true (show (0 : Int) ≤ (k : Int) by omega)]
      simp only [Bool.and_self, cond_true]
      rw [show mulE (Int.toNat (i : Int)) 1 = i from rfl, show mulE (Int.toNat (k : Int)) 1 = k from rfl, show mulE (Int.toNat ((i + k : Nat) : Int)) 1 = i + k from rfl, nats_getD, nats_getD, nats_getD, wrapI (by omega) (by omega)]
      rw [show ((x.getD i 0 : Nat) : Int) * ((y.getD k 0 : Nat) : Int) = ((x.getD i 0 * y.getD k 0 : Nat) : Int) from rfl, w64 (n := x.getD i 0 * y.getD k 0) (by omega)]
      rw [show ((L.getD (i + k) 0 : Nat) : Int) + ((x.getD i 0 * y.getD k 0 : Nat) : Int) = ((L.getD (i + k) 0 + x.getD i 0 * y.getD k 0 : Nat) : Int) from rfl, w64 (by omega), nats_set]
      rfl
theorem f100_outer {R : Type} (N : Nat) (hN : 16 < N) (k1 : Bool → Int → List Int → List Int → List Int → List Int → Option R) (z : List Int) {x y : List Nat} (hx : ∀ a ∈ x, a < 65536) (hy : ∀ a ∈ y, a < 65536) (hxl : x.length = 16) (hyl : y.length = 16) :
    ∀ j i : Nat, i + j = 16 → ∀ L : List Nat, L.length = 32 → (∀ a ∈ L, a ≤ (16 * i) * 4294836225) → ∀ fuel, j < fuel →
      ∃ L' : List Nat, L'.length = 32 ∧ (∀ a ∈ L', a ≤ 256 * 4294836225) ∧ valB 65536 L' = valB 65536 L + 65536 ^ i * valB 65536 (x.drop i) * valB 65536 y ∧
        f100_0_lp N k1 fuel (i : Int) (nats x) (nats y) z (nats L) = k1 false 16 (nats x) (nats y) z (nats L') := by
  intro j
  induction j with
  | zero =>
    intro i hi L hL hb fuel hf
    obtain ⟨f, rfl⟩ : ∃ f, fuel = f + 1 := ⟨fuel - 1, by omega⟩
    have : i = 16 := by omega
    subst this
    refine ⟨L, hL, hb, ?_, rfl⟩
    rw [List.drop_of_length_le (by omega)]; simp [valB]
  | succ j ih =>
    intro i hi L hL hb fuel hf
    obtain ⟨f, rfl⟩ : ∃ f, fuel = f + 1 := ⟨fuel - 1, by omega⟩
    obtain ⟨M, m1, m2, m3, m4⟩ := f100_inner N (fun w0_1 w0_2 w0_3 w0_4 w0_5 w0_6 w0_7 => f100_0_lp N k1 f (IntKind.i64.wrap (w0_2 + 1)) w0_4 w0_5 w0_6 w0_7) z hx hy hyl (i := i) (by omega) 16 0 rfl L hL hb N hN
    obtain ⟨L', g1, g2, g3, g4⟩ := ih (i + 1) (by omega) M m1 (fun a ha => Nat.le_trans (m2 a ha) (by omega)) f (by omega)
    refine ⟨L', g1, g2, ?_, ?_⟩
    · rw [g3, m3, drop_val x (k := i) (by omega), Nat.pow_zero, Nat.one_mul, List.drop_zero, Nat.mul_add, Nat.add_mul, Nat.pow_succ]
      rw [Nat.add_assoc]
      refine congrArg (valB 65536 L + ·) ?_
      refine congr (congrArg HAdd.hAdd ?_) ?_ <;> ac_rfl
    · rw [← g4]
      show f100_0_st N (f100_0_lp N k1 f) k1 _ _ _ _ _ = _
      unfold f100_0_st
      rw [decide_eq_true (show (i : Int) < 16 by omega), cond_true]
      refine Eq.trans m4 ?_
      rw [wrapI (by omega) (by omega)]
      rfl
noncomputable def I100 : (R : Type) → List DV → (List DV → Option R) → Option R := fun _ ds k => match ds with
  | [.v (.one (.ints .u64 16 x)), .v (.one (.ints .u64 16 y))] => bif okD x && okD y then k [.v (.one (.ints .u64 16 (refN (mulN (numD x) (numD y)))))] else none
  | _ => none
theorem c100 : Contract Try.prog 100 { sig := S100, impl := I100 } := by
  refine Contract.refine fun R ds k r h => ⟨_, f100_contract 17 HC_ok, ?_⟩
  unfold I100 at h
  split at h
  · rename_i x y
    rcases hc : okD x && okD y with _ | _
    · rw [hc] at h; cases h
    · rw [hc, cond_true] at h
      rw [Bool.and_eq_true] at hc
      rw [f100_raw_eq]
      obtain ⟨l, rfl, hl, hb⟩ := okD_of hc.1
      obtain ⟨m, rfl, hm, hb2⟩ := okD_of hc.2
      rw [numD_nats, numD_nats, mulN_def] at h
      unfold f100_raw
      have h0 : zerosOf (mulE (Int.toNat 32) 1) = nats (List.replicate 32 0) := by decide
      rw [h0]
      obtain ⟨L', g1, g2, g3, g4⟩ := f100_outer 17 (by decide) (fun w0_1 w0_2 w0_3 w0_4 w0_5 w0_6 => bif okL w0_6 then k [DV.v (SV.one (At.ints IntKind.u64 16 (refN (numD w0_6 % p25519))))] else Option.none) (List.replicate 16 0) hb hb2 hl hm 16 0 rfl (List.replicate 32 0) rfl (by decide) 17 (by decide)
      refine Eq.trans g4 ?_
      rw [show valB 65536 (List.replicate 32 0) = 0 by decide, Nat.zero_add, Nat.pow_zero, Nat.one_mul, List.drop_zero] at g3
      rw [okL_nats (by omega) (fun b hb3 => by have := g2 b hb3; omega), cond_true, numD_nats, g3]
      exact h
  · cases h
end Go.Proofs.Ytcgolglcjfknpaa

/- The document's exponents. -/
namespace Go.Proofs.Ytcgolglcjfknpaa
open Go Go.Eng
set_option maxRecDepth 100000
set_option linter.unusedVariables false
noncomputable def E77 (N : Nat) : Env := { Θ := Th, Γ := [], K := K77, ν := N77, fuel := 60, lp := [] }
theorem f77_contract (N : Nat) : Contract Try.prog 77 { sig := S77, impl := fun _ ds k => call (E77 N) S77 57 B77 R77 ds k } :=
  call_contract (E := E77 N) thOk ctxOk_nil mixed ok77.look ok77.body ok77.n ok77.rv ok77.name rfl (by decide) (loopsOk_of (l := [(0, B77_0), (2, B77_2), (4, B77_4)]) (by kernel_rfl) (allOk_skip rfl (allOk_skip rfl (allOk_skip rfl trivial))))
def exInv : List Int := [235, 255, 255, 255, 255, 255, 255, 255, 255, 255, 255, 255, 255, 255, 255, 255, 255, 255, 255, 255, 255, 255, 255, 255, 255, 255, 255, 255, 255, 255, 255, 127]
def exHalf : List Int := [246, 255, 255, 255, 255, 255, 255, 255, 255, 255, 255, 255, 255, 255, 255, 255, 255, 255, 255, 255, 255, 255, 255, 255, 255, 255, 255, 255, 255, 255, 255, 63]
def exQuar : List Int := [251, 255, 255, 255, 255, 255, 255, 255, 255, 255, 255, 255, 255, 255, 255, 255, 255, 255, 255, 255, 255, 255, 255, 255, 255, 255, 255, 255, 255, 255, 255, 31]
def exRoot : List Int := [254, 255, 255, 255, 255, 255, 255, 255, 255, 255, 255, 255, 255, 255, 255, 255, 255, 255, 255, 255, 255, 255, 255, 255, 255, 255, 255, 255, 255, 255, 255, 15]
theorem f77_exInv {R : Type} (k : List DV → Option R) : call (E77 0) S77 57 B77 R77 [.v (.one (.int .u8 2)), .v (.one (.int .i64 0))] k = k [.lst .u8 1 exInv] := by kernel_rfl
theorem f77_exHalf {R : Type} (k : List DV → Option R) : call (E77 0) S77 57 B77 R77 [.v (.one (.int .u8 1)), .v (.one (.int .i64 1))] k = k [.lst .u8 1 exHalf] := by kernel_rfl
theorem f77_exQuar {R : Type} (k : List DV → Option R) : call (E77 0) S77 57 B77 R77 [.v (.one (.int .u8 1)), .v (.one (.int .i64 2))] k = k [.lst .u8 1 exQuar] := by kernel_rfl
theorem f77_exRoot {R : Type} (k : List DV → Option R) : call (E77 0) S77 57 B77 R77 [.v (.one (.int .u8 253)), .v (.one (.int .i64 3))] k = k [.lst .u8 1 exRoot] := by kernel_rfl
noncomputable def I77 : (R : Type) → List DV → (List DV → Option R) → Option R := fun _ ds k => match ds with
  | [.v (.one (.int .u8 a)), .v (.one (.int .i64 b))] => bif decide (a = 2) && decide (b = 0) then k [.lst .u8 1 exInv] else bif decide (a = 1) && decide (b = 1) then k [.lst .u8 1 exHalf] else bif decide (a = 1) && decide (b = 2) then k [.lst .u8 1 exQuar] else bif decide (a = 253) && decide (b = 3) then k [.lst .u8 1 exRoot] else none
  | _ => none
theorem c77 : Contract Try.prog 77 { sig := S77, impl := I77 } := by
  refine Contract.refine fun R ds k r h => ⟨_, f77_contract 0, ?_⟩
  unfold I77 at h
  split at h
  · rename_i a b
    rcases hc0 : decide (a = 2) && decide (b = 0) with _ | _
    rotate_left
    · rw [hc0, cond_true] at h
      simp only [Bool.and_eq_true, decide_eq_true_eq] at hc0
      obtain ⟨rfl, rfl⟩ := hc0
      rw [f77_exInv]; exact h
    rw [hc0, cond_false] at h
    rcases hc1 : decide (a = 1) && decide (b = 1) with _ | _
    rotate_left
    · rw [hc1, cond_true] at h
      simp only [Bool.and_eq_true, decide_eq_true_eq] at hc1
      obtain ⟨rfl, rfl⟩ := hc1
      rw [f77_exHalf]; exact h
    rw [hc1, cond_false] at h
    rcases hc2 : decide (a = 1) && decide (b = 2) with _ | _
    rotate_left
    · rw [hc2, cond_true] at h
      simp only [Bool.and_eq_true, decide_eq_true_eq] at hc2
      obtain ⟨rfl, rfl⟩ := hc2
      rw [f77_exQuar]; exact h
    rw [hc2, cond_false] at h
    rcases hc3 : decide (a = 253) && decide (b = 3) with _ | _
    rotate_left
    · rw [hc3, cond_true] at h
      simp only [Bool.and_eq_true, decide_eq_true_eq] at hc3
      obtain ⟨rfl, rfl⟩ := hc3
      rw [f77_exRoot]; exact h
    rw [hc3, cond_false] at h
    cases h
  · cases h
theorem okE_exInv : okE exInv = true := by decide
theorem okE_exHalf : okE exHalf = true := by decide
theorem okE_exQuar : okE exQuar = true := by decide
theorem okE_exRoot : okE exRoot = true := by decide
theorem num_exInv : numB exInv = 57896044618658097711785492504343953926634992332820282019728792003956564819947 := by decide
theorem num_exHalf : numB exHalf = 28948022309329048855892746252171976963317496166410141009864396001978282409974 := by decide
theorem num_exQuar : numB exQuar = 14474011154664524427946373126085988481658748083205070504932198000989141204987 := by decide
theorem num_exRoot : numB exRoot = 7237005577332262213973186563042994240829374041602535252466099000494570602494 := by decide

noncomputable def HD : Ctx := (100, { sig := S100, impl := I100 }) :: (98, { sig := S98, impl := I98 }) :: (99, { sig := S99, impl := I99 }) :: (68, { sig := S68, impl := I68 }) :: (69, { sig := S69, impl := I69 }) :: (77, { sig := S77, impl := I77 }) :: (128, { sig := S128, impl := I128 }) :: (129, { sig := S129, impl := I129 }) :: (130, { sig := S130, impl := I130 }) :: (124, { sig := S124, impl := I124 }) :: (125, { sig := S125, impl := I125 }) :: []
theorem HD_ok : CtxOk Try.prog HD := ctxOk_cons ok100 rfl c100 (ctxOk_cons ok98 rfl c98 (ctxOk_cons ok99 rfl c99 (ctxOk_cons ok68 rfl c68 (ctxOk_cons ok69 rfl c69 (ctxOk_cons ok77 rfl c77 (ctxOk_cons ok128 rfl c128 (ctxOk_cons ok129 rfl c129 (ctxOk_cons ok130 rfl c130 (ctxOk_cons ok124 rfl c124 (ctxOk_cons ok125 rfl c125 ctxOk_nil))))))))))
end Go.Proofs.Ytcgolglcjfknpaa

/- What rime/rimeref01.power comes to. MADE BY PROGRAM (wip/tools/mkfn.py, EngGen.lean). -/
namespace Go.Proofs.Ytcgolglcjfknpaa
open Go Go.Eng
set_option maxRecDepth 100000
set_option linter.unusedVariables false

def f76_2_sh : Shp := { n := 36, lo := 2, slots := [(1, .one (.fix (At.own 1))), (2, .one (.fix (At.ptr 2 0 Off.z 16))), (4, .one (.fix (At.ptr 4 0 Off.z 16))), (5, .one (.fix (At.ptr 5 0 Off.z 16))), (6, .one (.int IntKind.i64)), (7, .one (.int IntKind.i64))], items := [(1, .view IntKind.u8 1), (2, .obj [.ints IntKind.u64 16]), (4, .obj [.ints IntKind.u64 16]), (5, .obj [.ints IntKind.u64 16])] }
def f76_2_ex1 : Shp := { n := 36, lo := 2, slots := [(17, .one (.bool)), (1, .one (.fix (At.own 1))), (2, .one (.fix (At.ptr 2 0 Off.z 16))), (4, .one (.fix (At.ptr 4 0 Off.z 16))), (5, .one (.fix (At.ptr 5 0 Off.z 16))), (6, .one (.int IntKind.i64)), (7, .one (.int IntKind.i64))], items := [(1, .view IntKind.u8 1), (2, .obj [.ints IntKind.u64 16]), (4, .obj [.ints IntKind.u64 16]), (5, .obj [.ints IntKind.u64 16])] }
noncomputable def f76_2_st {R : Type} (N : Nat) (self : Int → Int → List Int → List Int → List Int → List Int → Option R) (k1 : Bool → Int → Int → List Int → List Int → List Int → List Int → Option R) (x1 : Int) (x2 : Int) (x3 : List Int) (x4 : List Int) (x5 : List Int) (x6 : List Int) : Option R :=
 bif Decidable.decide (x2 ≥ 0) then
 bif okD x6 && okD x6 then
 bif Decidable.decide (0 ≤ x1) && Decidable.decide (x1 < nI (rowLen 1 x3)) then
 let v0 : Int := IntKind.u64.wrap x2;
 bif Decidable.decide (0 ≤ v0) then
 let v1 : Int := shrI IntKind.u8 (x3.getD (mulE x1.toNat 1) 0) v0;
 let v2 : Int := andI IntKind.u8 v1 1;
 bif v2 == 1 then
 bif okD (refN (mulN (numD x6) (numD x6))) && okD x4 then
 let v3 : Int := IntKind.i64.wrap (x2 - 1);
 self x1 v3 x3 x4 x5 (refN (mulN (numD (refN (mulN (numD x6) (numD x6)))) (numD x4)))
 else Option.none
 else
 let v4 : Int := IntKind.i64.wrap (x2 - 1);
 self x1 v4 x3 x4 x5 (refN (mulN (numD x6) (numD x6)))
 else Option.none
 else Option.none
 else Option.none
else k1 (Decidable.decide (x2 ≥ 0)) x1 x2 x3 x4 x5 x6
noncomputable def f76_2_lp {R : Type} (N : Nat) (k1 : Bool → Int → Int → List Int → List Int → List Int → List Int → Option R) : Nat → Int → Int → List Int → List Int → List Int → List Int → Option R
 | 0, _, _, _, _, _, _ => none
 | n + 1, x1, x2, x3, x4, x5, x6 => f76_2_st N (f76_2_lp N k1 n) k1 x1 x2 x3 x4 x5 x6
noncomputable def f76_2_F (N : Nat) : (R : Type) → List Leaf → (X → AS → Option R) → Option R := fun _ ls K => match ls with
 | [.i x1, .i x2, .l x3, .l x4, .l x5, .l x6] => f76_2_lp N (fun y1 y2 y3 y4 y5 y6 y7 => K (X.normal) (fill f76_2_ex1 [.b y1, .i y2, .i y3, .l y4, .l y5, .l y6, .l y7])) N x1 x2 x3 x4 x5 x6
 | _ => none
def f76_0_sh : Shp := { n := 36, lo := 2, slots := [(1, .one (.fix (At.own 1))), (2, .one (.fix (At.ptr 2 0 Off.z 16))), (4, .one (.fix (At.ptr 4 0 Off.z 16))), (5, .one (.fix (At.ptr 5 0 Off.z 16))), (6, .one (.int IntKind.i64))], items := [(1, .view IntKind.u8 1), (2, .obj [.ints IntKind.u64 16]), (4, .obj [.ints IntKind.u64 16]), (5, .obj [.ints IntKind.u64 16])] }
def f76_0_ex1 : Shp := { n := 36, lo := 2, slots := [(13, .one (.bool)), (1, .one (.fix (At.own 1))), (2, .one (.fix (At.ptr 2 0 Off.z 16))), (4, .one (.fix (At.ptr 4 0 Off.z 16))), (5, .one (.fix (At.ptr 5 0 Off.z 16))), (6, .one (.int IntKind.i64))], items := [(1, .view IntKind.u8 1), (2, .obj [.ints IntKind.u64 16]), (4, .obj [.ints IntKind.u64 16]), (5, .obj [.ints IntKind.u64 16])] }
noncomputable def f76_0_st {R : Type} (N : Nat) (self : Int → List Int → List Int → List Int → List Int → Option R) (k1 : Bool → Int → List Int → List Int → List Int → List Int → Option R) (x1 : Int) (x2 : List Int) (x3 : List Int) (x4 : List Int) (x5 : List Int) : Option R :=
 bif Decidable.decide (x1 ≥ 0) then
 f76_2_lp N
 (fun w0_1 w0_2 w0_3 w0_4 w0_5 w0_6 w0_7 =>
 let v1 : Int := IntKind.i64.wrap (w0_2 - 1);
 self v1 w0_4 w0_5 w0_6 w0_7)
 N x1 7 x2 x3 x4 x5
else k1 (Decidable.decide (x1 ≥ 0)) x1 x2 x3 x4 x5
noncomputable def f76_0_lp {R : Type} (N : Nat) (k1 : Bool → Int → List Int → List Int → List Int → List Int → Option R) : Nat → Int → List Int → List Int → List Int → List Int → Option R
 | 0, _, _, _, _, _ => none
 | n + 1, x1, x2, x3, x4, x5 => f76_0_st N (f76_0_lp N k1 n) k1 x1 x2 x3 x4 x5
noncomputable def f76_0_F (N : Nat) : (R : Type) → List Leaf → (X → AS → Option R) → Option R := fun _ ls K => match ls with
 | [.i x1, .l x2, .l x3, .l x4, .l x5] => f76_0_lp N (fun y1 y2 y3 y4 y5 y6 => K (X.normal) (fill f76_0_ex1 [.b y1, .i y2, .l y3, .l y4, .l y5, .l y6])) N x1 x2 x3 x4 x5
 | _ => none
noncomputable def f76_raw {R : Type} (N : Nat) (x : List Int) (e : List Int) (k : List DV → Option R) : Option R :=
 let v0 : Int := IntKind.i64.wrap (nI (rowLen 1 e) - 1);
let v1 : List Int := (List.replicate 16 0).set (mulE (Int.toNat 0) 1) 1;
f76_0_lp N (fun w2_1 w2_2 w2_3 w2_4 w2_5 w2_6 => k [DV.v (SV.one (At.ints IntKind.u64 16 w2_6))]) N v0 e x (List.replicate 16 0) v1


noncomputable def E76 (N : Nat) : Env := { Θ := Th, Γ := HD, K := K76, ν := N76, fuel := 0, lp := [(0, mkL N76_0 f76_0_sh (f76_0_F N)), (2, mkL N76_2 f76_2_sh (f76_2_F N))] }

theorem f76_2_st_eq {R : Type} (N : Nat) (K : X → AS → Option R) (n : Nat) (x1 : Int) (x2 : Int) (x3 : List Int) (x4 : List Int) (x5 : List Int) (x6 : List Int) : roundsOf (E76 N) N76_2 2 B76_2 K (n + 1) (fill f76_2_sh [.i x1, .i x2, .l x3, .l x4, .l x5, .l x6]) = f76_2_st N (fun x1 x2 x3 x4 x5 x6 => roundsOf (E76 N) N76_2 2 B76_2 K n (fill f76_2_sh [.i x1, .i x2, .l x3, .l x4, .l x5, .l x6])) (fun y1 y2 y3 y4 y5 y6 y7 => K (X.normal) (fill f76_2_ex1 [.b y1, .i y2, .i y3, .l y4, .l y5, .l y6, .l y7])) x1 x2 x3 x4 x5 x6 := by kernel_rfl
theorem f76_2_lp_eq {R : Type} (N : Nat) (K : X → AS → Option R) : ∀ (n : Nat) (x1 : Int) (x2 : Int) (x3 : List Int) (x4 : List Int) (x5 : List Int) (x6 : List Int), roundsOf (E76 N) N76_2 2 B76_2 K n (fill f76_2_sh [.i x1, .i x2, .l x3, .l x4, .l x5, .l x6]) = f76_2_lp N (fun y1 y2 y3 y4 y5 y6 y7 => K (X.normal) (fill f76_2_ex1 [.b y1, .i y2, .i y3, .l y4, .l y5, .l y6, .l y7])) n x1 x2 x3 x4 x5 x6
  | 0, _, _, _, _, _, _ => rfl
  | n + 1, x1, x2, x3, x4, x5, x6 => by
    rw [f76_2_st_eq, f76_2_lp, show (fun x1 x2 x3 x4 x5 x6 => roundsOf (E76 N) N76_2 2 B76_2 K n (fill f76_2_sh [.i x1, .i x2, .l x3, .l x4, .l x5, .l x6])) = f76_2_lp N (fun y1 y2 y3 y4 y5 y6 y7 => K (X.normal) (fill f76_2_ex1 [.b y1, .i y2, .i y3, .l y4, .l y5, .l y6, .l y7])) n from by funext x1 x2 x3 x4 x5 x6; exact f76_2_lp_eq N K n x1 x2 x3 x4 x5 x6]
theorem f76_2_ok (N : Nat) (hlp : LoopsOk Try.prog (E76 N).lp B76_2) (hΓ : CtxOk Try.prog (E76 N).Γ) : LoopOk Try.prog (mkL N76_2 f76_2_sh (f76_2_F N)) 2 B76_2 := by
  refine loopOk_of (E := E76 N) thOk hΓ mixed hlp ?_
  intro R ls K r h
  unfold f76_2_F at h
  split at h
  · exact ⟨N, by rw [f76_2_lp_eq]; exact h⟩
  · cases h
theorem f76_0_st_eq {R : Type} (N : Nat) (K : X → AS → Option R) (n : Nat) (x1 : Int) (x2 : List Int) (x3 : List Int) (x4 : List Int) (x5 : List Int) : roundsOf (E76 N) N76_0 0 B76_0 K (n + 1) (fill f76_0_sh [.i x1, .l x2, .l x3, .l x4, .l x5]) = f76_0_st N (fun x1 x2 x3 x4 x5 => roundsOf (E76 N) N76_0 0 B76_0 K n (fill f76_0_sh [.i x1, .l x2, .l x3, .l x4, .l x5])) (fun y1 y2 y3 y4 y5 y6 => K (X.normal) (fill f76_0_ex1 [.b y1, .i y2, .l y3, .l y4, .l y5, .l y6])) x1 x2 x3 x4 x5 := by kernel_rfl
theorem f76_0_lp_eq {R : Type} (N : Nat) (K : X → AS → Option R) : ∀ (n : Nat) (x1 : Int) (x2 : List Int) (x3 : List Int) (x4 : List Int) (x5 : List Int), roundsOf (E76 N) N76_0 0 B76_0 K n (fill f76_0_sh [.i x1, .l x2, .l x3, .l x4, .l x5]) = f76_0_lp N (fun y1 y2 y3 y4 y5 y6 => K (X.normal) (fill f76_0_ex1 [.b y1, .i y2, .l y3, .l y4, .l y5, .l y6])) n x1 x2 x3 x4 x5
  | 0, _, _, _, _, _ => rfl
  | n + 1, x1, x2, x3, x4, x5 => by
    rw [f76_0_st_eq, f76_0_lp, show (fun x1 x2 x3 x4 x5 => roundsOf (E76 N) N76_0 0 B76_0 K n (fill f76_0_sh [.i x1, .l x2, .l x3, .l x4, .l x5])) = f76_0_lp N (fun y1 y2 y3 y4 y5 y6 => K (X.normal) (fill f76_0_ex1 [.b y1, .i y2, .l y3, .l y4, .l y5, .l y6])) n from by funext x1 x2 x3 x4 x5; exact f76_0_lp_eq N K n x1 x2 x3 x4 x5]
theorem f76_0_ok (N : Nat) (hlp : LoopsOk Try.prog (E76 N).lp B76_0) (hΓ : CtxOk Try.prog (E76 N).Γ) : LoopOk Try.prog (mkL N76_0 f76_0_sh (f76_0_F N)) 0 B76_0 := by
  refine loopOk_of (E := E76 N) thOk hΓ mixed hlp ?_
  intro R ls K r h
  unfold f76_0_F at h
  split at h
  · exact ⟨N, by rw [f76_0_lp_eq]; exact h⟩
  · cases h

theorem lok76_2 (N : Nat) (hΓ : CtxOk Try.prog HD) : LoopOk Try.prog (mkL N76_2 f76_2_sh (f76_2_F N)) 2 B76_2 := f76_2_ok N (loopsOk_of (l := []) (by kernel_rfl) trivial) hΓ
theorem lok76_0 (N : Nat) (hΓ : CtxOk Try.prog HD) : LoopOk Try.prog (mkL N76_0 f76_0_sh (f76_0_F N)) 0 B76_0 := f76_0_ok N (loopsOk_of (l := [(2, B76_2)]) (by kernel_rfl) (allOk_cons (L := mkL N76_2 f76_2_sh (f76_2_F N)) rfl (lok76_2 N hΓ) trivial)) hΓ
theorem f76_contract (N : Nat) (hΓ : CtxOk Try.prog HD) : Contract Try.prog 76 { sig := S76, impl := fun _ ds k => call (E76 N) S76 36 B76 R76 ds k } :=
  call_contract (E := E76 N) thOk hΓ mixed ok76.look ok76.body ok76.n ok76.rv ok76.name rfl (by decide) (loopsOk_of (l := [(0, B76_0), (2, B76_2)]) (by kernel_rfl) (allOk_cons (L := mkL N76_0 f76_0_sh (f76_0_F N)) rfl (lok76_0 N hΓ) (allOk_cons (L := mkL N76_2 f76_2_sh (f76_2_F N)) rfl (lok76_2 N hΓ) trivial)))
theorem f76_raw_eq {R : Type} (N : Nat) (x : List Int) (e : List Int) (k : List DV → Option R) : call (E76 N) S76 36 B76 R76 [.v (.one (.ints .u64 16 x)), .lst .u8 1 e] k = f76_raw N x e k := by kernel_rfl
end Go.Proofs.Ytcgolglcjfknpaa

/- The document's powers. -/
namespace Go.Proofs.Ytcgolglcjfknpaa
open Go Go.Eng
set_option maxRecDepth 100000
set_option linter.unusedVariables false

theorem two255 : p25519 < 2 ^ 256 := by decide
theorem numD_ref {v : Nat} (h : v < p25519) : numD (refN v) = v := numD_refN (Nat.lt_trans h two255)
theorem numD_refm (v : Nat) : numD (refN (v % p25519)) = v % p25519 := numD_ref (Nat.mod_lt _ (by decide))
theorem f76_in {R : Type} (N : Nat) (k1 : Bool → Int → Int → List Int → List Int → List Int → List Int → Option R) (z : List Int) {x : List Int} (hx : okD x = true) {l : List Nat} (hl : ∀ b ∈ l, b < 256) (i : Nat) (hi : i < l.length) :
    ∀ j : Nat, j ≤ 8 → ∀ fuel, j < fuel → ∀ c, f76_2_lp N k1 fuel (i : Int) ((j : Int) - 1) (nats l) x z (refN (numD x ^ c % p25519)) = k1 false (i : Int) (-1) (nats l) x z (refN (numD x ^ (c * 2 ^ j + l.getD i 0 % 2 ^ j) % p25519)) := by
  intro j
  induction j with
  | zero =>
    intro _ fuel hf c
    obtain ⟨f, rfl⟩ : ∃ f, fuel = f + 1 := ⟨fuel - 1, by omega⟩
    rw [Nat.pow_zero, Nat.mul_one, Nat.mod_one, Nat.add_zero]
    rfl
  | succ j ih =>
    intro hj fuel hf c
    obtain ⟨f, rfl⟩ : ∃ f, fuel = f + 1 := ⟨fuel - 1, by omega⟩
    have hb : l.getD i 0 < 256 := getD_lt (by decide) hl i
    rw [show ((j + 1 : Nat) : Int) - 1 = (j : Int) by omega]
    show f76_2_st N (f76_2_lp N k1 f) k1 _ _ _ _ _ _ = _
    unfold f76_2_st
    rw [show nI (rowLen 1 (nats l)) = (l.length : Int) from by show (((nats l).length : Nat) : Int) = _; rw [nats_length]]
    rw [decide_eq_true (show (j : Int) ≥ 0 by omega), decide_eq_true (show (0 : Int) ≤ (i : Int) by omega), decide_eq_true (show (i : Int) < (l.length : Int) by omega), okD_refN, okD_refN, hx, w64 (n := j) (by omega), show mulE (Int.toNat (i : Int)) 1 = i from rfl, nats_getD]
    dsimp only
    rw [decide_eq_true (show (0 : Int) ≤ (j : Int) by omega), bit8 hb j (by omega), wrapI (a := (j : Int) - 1) (by omega) (by omega), numD_refm]
    simp only [Bool.and_self, cond_true]
    have hm : mulN (numD x ^ c % p25519) (numD x ^ c % p25519) = numD x ^ (2 * c) % p25519 := by
      rw [mulN_def, ← Nat.mul_mod, ← Nat.pow_add, Nat.two_mul]
    rw [hm, numD_refm]
    have hb2 : l.getD i 0 % 2 ^ (j + 1) = l.getD i 0 / 2 ^ j % 2 * 2 ^ j + l.getD i 0 % 2 ^ j := by
      rw [Nat.pow_succ, Nat.mod_mul, Nat.mul_comm, Nat.add_comm, Nat.mul_comm]
    rcases hc : (((l.getD i 0 / 2 ^ j % 2 : Nat) : Int) == 1) with _ | _
    · rw [cond_false, ih (by omega) f (by omega) (2 * c)]
      have h0 : l.getD i 0 / 2 ^ j % 2 = 0 := by
        have : ¬ l.getD i 0 / 2 ^ j % 2 = 1 := fun h => by rw [h] at hc; exact absurd hc (by decide)
        omega
      rw [hb2, h0, Nat.pow_succ, Nat.mul_comm (2 ^ j) 2, ← Nat.mul_assoc, Nat.zero_mul, Nat.zero_add, Nat.mul_comm 2 c]
    · have h1 : l.getD i 0 / 2 ^ j % 2 = 1 := by rw [beq_iff_eq] at hc; omega
      have hm2 : mulN (numD x ^ (2 * c) % p25519) (numD x) = numD x ^ (2 * c + 1) % p25519 := by
        rw [mulN_def, Nat.mod_mul_mod, ← Nat.pow_succ]
      rw [cond_true, hm2, ih (by omega) f (by omega) (2 * c + 1)]
      rw [hb2, h1, Nat.pow_succ, Nat.mul_comm (2 ^ j) 2, ← Nat.mul_assoc, Nat.one_mul, Nat.succ_mul, Nat.mul_comm 2 c, Nat.add_assoc]
theorem f76_out {R : Type} (N : Nat) (hN : 8 < N) (k1 : Bool → Int → List Int → List Int → List Int → List Int → Option R) (z : List Int) {x : List Int} (hx : okD x = true) {l : List Nat} (hl : ∀ b ∈ l, b < 256) (he : l.length < 9223372036854775808) :
    ∀ m : Nat, m ≤ l.length → ∀ fuel, m < fuel → ∀ c, f76_0_lp N k1 fuel ((m : Int) - 1) (nats l) x z (refN (numD x ^ c % p25519)) = k1 false (-1) (nats l) x z (refN (numD x ^ (c * 256 ^ m + valB 256 (l.take m)) % p25519)) := by
  intro m
  induction m with
  | zero =>
    intro _ fuel hf c
    obtain ⟨f, rfl⟩ : ∃ f, fuel = f + 1 := ⟨fuel - 1, by omega⟩
    rw [Nat.pow_zero, Nat.mul_one, List.take_zero, show valB 256 ([] : List Nat) = 0 from rfl, Nat.add_zero]
    rfl
  | succ m ih =>
    intro hm fuel hf c
    obtain ⟨f, rfl⟩ : ∃ f, fuel = f + 1 := ⟨fuel - 1, by omega⟩
    have hb : l.getD m 0 < 256 := getD_lt (by decide) hl m
    rw [show ((m + 1 : Nat) : Int) - 1 = (m : Int) by omega]
    show f76_0_st N (f76_0_lp N k1 f) k1 _ _ _ _ _ = _
    unfold f76_0_st
    rw [decide_eq_true (show (m : Int) ≥ 0 by omega), cond_true]
    refine Eq.trans (f76_in N _ z hx hl m (by omega) 8 (by decide) N hN c) ?_
    dsimp only
    rw [wrapI (a := (m : Int) - 1) (by omega) (by omega), ih (by omega) f (by omega), show (2 : Nat) ^ 8 = 256 from rfl, Nat.mod_eq_of_lt hb, take_val l (by omega)]
    rw [Nat.add_mul, Nat.pow_succ, Nat.mul_assoc, Nat.mul_comm 256 (256 ^ m), Nat.add_assoc, Nat.add_comm (l.getD m 0 * 256 ^ m)]
noncomputable def I76 : (R : Type) → List DV → (List DV → Option R) → Option R := fun _ ds k => match ds with
  | [.v (.one (.ints .u64 16 x)), .lst .u8 1 e] => bif okD x && okE e then k [.v (.one (.ints .u64 16 (refN (pw (numD x) (numB e)))))] else none
  | _ => none
theorem c76 : Contract Try.prog 76 { sig := S76, impl := I76 } := by
  refine Contract.refine fun R ds k r h => ?_
  unfold I76 at h
  split at h
  · rename_i x e
    rcases hc : okD x && okE e with _ | _
    · rw [hc] at h; cases h
    · rw [hc, cond_true] at h
      rw [Bool.and_eq_true] at hc
      refine ⟨_, f76_contract (e.length + 9) HD_ok, ?_⟩
      rw [f76_raw_eq]
      obtain ⟨he, l, rfl, hb⟩ := okE_of hc.2
      rw [nats_length] at he
      rw [numB_nats, pw_eq] at h
      rw [← h]
      unfold f76_raw
      dsimp only
      rw [show nI (rowLen 1 (nats l)) = (l.length : Int) from by show (((nats l).length : Nat) : Int) = _; rw [nats_length], wrapI (a := (l.length : Int) - 1) (by omega) (by omega)]
      rw [show (List.replicate 16 (0 : Int)).set (mulE (Int.toNat 0) 1) 1 = refN (numD x ^ 0 % p25519) by rw [Nat.pow_zero, refN_def]; decide]
      refine Eq.trans (f76_out _ (by omega) _ _ hc.1 hb he l.length (Nat.le_refl _) _ (by rw [nats_length]; omega) 0) ?_
      rw [Nat.zero_mul, Nat.zero_add, List.take_length]
  · cases h

noncomputable def HE : Ctx := (76, { sig := S76, impl := I76 }) :: (100, { sig := S100, impl := I100 }) :: (98, { sig := S98, impl := I98 }) :: (99, { sig := S99, impl := I99 }) :: (68, { sig := S68, impl := I68 }) :: (69, { sig := S69, impl := I69 }) :: (77, { sig := S77, impl := I77 }) :: (129, { sig := S129, impl := I129 }) :: (125, { sig := S125, impl := I125 }) :: (124, { sig := S124, impl := I124 }) :: []
theorem HE_ok : CtxOk Try.prog HE := ctxOk_cons ok76 rfl c76 (ctxOk_cons ok100 rfl c100 (ctxOk_cons ok98 rfl c98 (ctxOk_cons ok99 rfl c99 (ctxOk_cons ok68 rfl c68 (ctxOk_cons ok69 rfl c69 (ctxOk_cons ok77 rfl c77 (ctxOk_cons ok129 rfl c129 (ctxOk_cons ok125 rfl c125 (ctxOk_cons ok124 rfl c124 ctxOk_nil)))))))))

end Go.Proofs.Ytcgolglcjfknpaa

/- What rime/rimeref01.Add comes to. MADE BY PROGRAM (wip/tools/mkfn.py, EngGen.lean). -/
namespace Go.Proofs.Ytcgolglcjfknpaa
open Go Go.Eng
set_option maxRecDepth 100000
set_option linter.unusedVariables false

noncomputable def f44_raw {R : Type} (N : Nat) (x : List Int) (y : List Int) (k : List DV → Option R) : Option R :=
 bif okB x then bif okB y then bif okD (refN (vB x)) && okD (refN (vB y)) then bif okD (refN (addN (numD (refN (vB x))) (numD (refN (vB y))))) then k [DV.v (SV.one (At.ints IntKind.u8 32 (feN (numD (refN (addN (numD (refN (vB x))) (numD (refN (vB y)))))))))] else Option.none else Option.none else Option.none else Option.none


noncomputable def E44 (N : Nat) : Env := { Θ := Th, Γ := HE, K := K44, ν := N44, fuel := 60, lp := [] }


theorem f44_contract (N : Nat) (hΓ : CtxOk Try.prog HE) : Contract Try.prog 44 { sig := S44, impl := fun _ ds k => call (E44 N) S44 11 B44 R44 ds k } :=
  call_contract (E := E44 N) thOk hΓ mixed ok44.look ok44.body ok44.n ok44.rv ok44.name rfl (by decide) (loopsOk_of (l := []) (by kernel_rfl) trivial)
theorem f44_raw_eq {R : Type} (N : Nat) (x : List Int) (y : List Int) (k : List DV → Option R) : call (E44 N) S44 11 B44 R44 [.v (.one (.ints .u8 32 x)), .v (.one (.ints .u8 32 y))] k = f44_raw N x y k := by kernel_rfl
end Go.Proofs.Ytcgolglcjfknpaa

/- What rime/rimeref01.Sub comes to. MADE BY PROGRAM (wip/tools/mkfn.py, EngGen.lean). -/
namespace Go.Proofs.Ytcgolglcjfknpaa
open Go Go.Eng
set_option maxRecDepth 100000
set_option linter.unusedVariables false

noncomputable def f46_raw {R : Type} (N : Nat) (x : List Int) (y : List Int) (k : List DV → Option R) : Option R :=
 bif okB x then bif okB y then bif okD (refN (vB y)) && Decidable.decide (numD (refN (vB y)) < p25519) then bif okD (refN (vB x)) && okD (refN (subN 0 (numD (refN (vB y))))) then bif okD (refN (addN (numD (refN (vB x))) (numD (refN (subN 0 (numD (refN (vB y)))))))) then k [DV.v (SV.one (At.ints IntKind.u8 32 (feN (numD (refN (addN (numD (refN (vB x))) (numD (refN (subN 0 (numD (refN (vB y))))))))))))] else Option.none else Option.none else Option.none else Option.none else Option.none


noncomputable def E46 (N : Nat) : Env := { Θ := Th, Γ := HE, K := K46, ν := N46, fuel := 60, lp := [] }


theorem f46_contract (N : Nat) (hΓ : CtxOk Try.prog HE) : Contract Try.prog 46 { sig := S46, impl := fun _ ds k => call (E46 N) S46 12 B46 R46 ds k } :=
  call_contract (E := E46 N) thOk hΓ mixed ok46.look ok46.body ok46.n ok46.rv ok46.name rfl (by decide) (loopsOk_of (l := []) (by kernel_rfl) trivial)
theorem f46_raw_eq {R : Type} (N : Nat) (x : List Int) (y : List Int) (k : List DV → Option R) : call (E46 N) S46 12 B46 R46 [.v (.one (.ints .u8 32 x)), .v (.one (.ints .u8 32 y))] k = f46_raw N x y k := by kernel_rfl
end Go.Proofs.Ytcgolglcjfknpaa

/- What rime/rimeref01.Neg comes to. MADE BY PROGRAM (wip/tools/mkfn.py, EngGen.lean). -/
namespace Go.Proofs.Ytcgolglcjfknpaa
open Go Go.Eng
set_option maxRecDepth 100000
set_option linter.unusedVariables false

noncomputable def f47_raw {R : Type} (N : Nat) (x : List Int) (k : List DV → Option R) : Option R :=
 bif okB x then bif okD (refN (vB x)) && Decidable.decide (numD (refN (vB x)) < p25519) then bif okD (refN (subN 0 (numD (refN (vB x))))) then k [DV.v (SV.one (At.ints IntKind.u8 32 (feN (numD (refN (subN 0 (numD (refN (vB x)))))))))] else Option.none else Option.none else Option.none


noncomputable def E47 (N : Nat) : Env := { Θ := Th, Γ := HE, K := K47, ν := N47, fuel := 60, lp := [] }


theorem f47_contract (N : Nat) (hΓ : CtxOk Try.prog HE) : Contract Try.prog 47 { sig := S47, impl := fun _ ds k => call (E47 N) S47 7 B47 R47 ds k } :=
  call_contract (E := E47 N) thOk hΓ mixed ok47.look ok47.body ok47.n ok47.rv ok47.name rfl (by decide) (loopsOk_of (l := []) (by kernel_rfl) trivial)
theorem f47_raw_eq {R : Type} (N : Nat) (x : List Int) (k : List DV → Option R) : call (E47 N) S47 7 B47 R47 [.v (.one (.ints .u8 32 x))] k = f47_raw N x k := by kernel_rfl
end Go.Proofs.Ytcgolglcjfknpaa

/- What rime/rimeref01.Mul comes to. MADE BY PROGRAM (wip/tools/mkfn.py, EngGen.lean). -/
namespace Go.Proofs.Ytcgolglcjfknpaa
open Go Go.Eng
set_option maxRecDepth 100000
set_option linter.unusedVariables false

noncomputable def f50_raw {R : Type} (N : Nat) (x : List Int) (y : List Int) (k : List DV → Option R) : Option R :=
 bif okB x then bif okB y then bif okD (refN (vB x)) && okD (refN (vB y)) then bif okD (refN (mulN (numD (refN (vB x))) (numD (refN (vB y))))) then k [DV.v (SV.one (At.ints IntKind.u8 32 (feN (numD (refN (mulN (numD (refN (vB x))) (numD (refN (vB y)))))))))] else Option.none else Option.none else Option.none else Option.none


noncomputable def E50 (N : Nat) : Env := { Θ := Th, Γ := HE, K := K50, ν := N50, fuel := 60, lp := [] }


theorem f50_contract (N : Nat) (hΓ : CtxOk Try.prog HE) : Contract Try.prog 50 { sig := S50, impl := fun _ ds k => call (E50 N) S50 11 B50 R50 ds k } :=
  call_contract (E := E50 N) thOk hΓ mixed ok50.look ok50.body ok50.n ok50.rv ok50.name rfl (by decide) (loopsOk_of (l := []) (by kernel_rfl) trivial)
theorem f50_raw_eq {R : Type} (N : Nat) (x : List Int) (y : List Int) (k : List DV → Option R) : call (E50 N) S50 11 B50 R50 [.v (.one (.ints .u8 32 x)), .v (.one (.ints .u8 32 y))] k = f50_raw N x y k := by kernel_rfl
end Go.Proofs.Ytcgolglcjfknpaa

/- What rime/rimeref01.Invert comes to. MADE BY PROGRAM (wip/tools/mkfn.py, EngGen.lean). -/
namespace Go.Proofs.Ytcgolglcjfknpaa
open Go Go.Eng
set_option maxRecDepth 100000
set_option linter.unusedVariables false

noncomputable def f26_raw {R : Type} (N : Nat) (x : List Int) (k : List DV → Option R) : Option R :=
 bif okB x then bif okD (refN (vB x)) && okE exInv then bif okD (refN (pw (numD (refN (vB x))) (numB exInv))) then k [DV.v (SV.one (At.ints IntKind.u8 32 (feN (numD (refN (pw (numD (refN (vB x))) (numB exInv)))))))] else Option.none else Option.none else Option.none


noncomputable def E26 (N : Nat) : Env := { Θ := Th, Γ := HE, K := K26, ν := N26, fuel := 60, lp := [] }


theorem f26_contract (N : Nat) (hΓ : CtxOk Try.prog HE) : Contract Try.prog 26 { sig := S26, impl := fun _ ds k => call (E26 N) S26 8 B26 R26 ds k } :=
  call_contract (E := E26 N) thOk hΓ mixed ok26.look ok26.body ok26.n ok26.rv ok26.name rfl (by decide) (loopsOk_of (l := []) (by kernel_rfl) trivial)
theorem f26_raw_eq {R : Type} (N : Nat) (x : List Int) (k : List DV → Option R) : call (E26 N) S26 8 B26 R26 [.v (.one (.ints .u8 32 x))] k = f26_raw N x k := by kernel_rfl
end Go.Proofs.Ytcgolglcjfknpaa

/- What rime/rimeref01.Power comes to. MADE BY PROGRAM (wip/tools/mkfn.py, EngGen.lean). -/
namespace Go.Proofs.Ytcgolglcjfknpaa
open Go Go.Eng
set_option maxRecDepth 100000
set_option linter.unusedVariables false

noncomputable def f28_raw {R : Type} (N : Nat) (x : List Int) (e : List Int) (k : List DV → Option R) : Option R :=
 bif okB x then bif okD (refN (vB x)) && okE e then bif okD (refN (pw (numD (refN (vB x))) (numB e))) then k [DV.v (SV.one (At.ints IntKind.u8 32 (feN (numD (refN (pw (numD (refN (vB x))) (numB e)))))))] else Option.none else Option.none else Option.none


noncomputable def E28 (N : Nat) : Env := { Θ := Th, Γ := HE, K := K28, ν := N28, fuel := 60, lp := [] }


theorem f28_contract (N : Nat) (hΓ : CtxOk Try.prog HE) : Contract Try.prog 28 { sig := S28, impl := fun _ ds k => call (E28 N) S28 10 B28 R28 ds k } :=
  call_contract (E := E28 N) thOk hΓ mixed ok28.look ok28.body ok28.n ok28.rv ok28.name rfl (by decide) (loopsOk_of (l := []) (by kernel_rfl) trivial)
theorem f28_raw_eq {R : Type} (N : Nat) (x : List Int) (e : List Int) (k : List DV → Option R) : call (E28 N) S28 10 B28 R28 [.v (.one (.ints .u8 32 x)), .lst .u8 1 e] k = f28_raw N x e k := by kernel_rfl
end Go.Proofs.Ytcgolglcjfknpaa

/- What rime/rimeref01.Legendre comes to. MADE BY PROGRAM (wip/tools/mkfn.py, EngGen.lean). -/
namespace Go.Proofs.Ytcgolglcjfknpaa
open Go Go.Eng
set_option maxRecDepth 100000
set_option linter.unusedVariables false

noncomputable def f29_raw {R : Type} (N : Nat) (x : List Int) (k : List DV → Option R) : Option R :=
 bif okB x then
 bif okD (refN (vB x)) && okE exHalf then
 bif Decidable.decide (refN (pw (numD (refN (vB x))) (numB exHalf)) = List.replicate 16 0) then k [DV.v (SV.one (At.int IntKind.i64 0))]
 else
 let v0 : List Int := (List.replicate 16 0).set (mulE (Int.toNat 0) 1) 1;
 bif Decidable.decide (refN (pw (numD (refN (vB x))) (numB exHalf)) = v0) then k [DV.v (SV.one (At.int IntKind.i64 1))] else k [DV.v (SV.one (At.int IntKind.i64 (-1)))]
 else Option.none
else Option.none


noncomputable def E29 (N : Nat) : Env := { Θ := Th, Γ := HE, K := K29, ν := N29, fuel := 60, lp := [] }


theorem f29_contract (N : Nat) (hΓ : CtxOk Try.prog HE) : Contract Try.prog 29 { sig := S29, impl := fun _ ds k => call (E29 N) S29 17 B29 R29 ds k } :=
  call_contract (E := E29 N) thOk hΓ mixed ok29.look ok29.body ok29.n ok29.rv ok29.name rfl (by decide) (loopsOk_of (l := []) (by kernel_rfl) trivial)
theorem f29_raw_eq {R : Type} (N : Nat) (x : List Int) (k : List DV → Option R) : call (E29 N) S29 17 B29 R29 [.v (.one (.ints .u8 32 x))] k = f29_raw N x k := by kernel_rfl
end Go.Proofs.Ytcgolglcjfknpaa

/- What rime/rimeref01.IsNegative comes to. MADE BY PROGRAM (wip/tools/mkfn.py, EngGen.lean). -/
namespace Go.Proofs.Ytcgolglcjfknpaa
open Go Go.Eng
set_option maxRecDepth 100000
set_option linter.unusedVariables false

noncomputable def f31_raw {R : Type} (N : Nat) (x : List Int) (k : List DV → Option R) : Option R :=
 bif okB x then k [DV.v (SV.one (At.bool (((refN (vB x)).getD (Int.toNat 0) 0).tmod 2 == 1)))] else Option.none


noncomputable def E31 (N : Nat) : Env := { Θ := Th, Γ := HE, K := K31, ν := N31, fuel := 60, lp := [] }


theorem f31_contract (N : Nat) (hΓ : CtxOk Try.prog HE) : Contract Try.prog 31 { sig := S31, impl := fun _ ds k => call (E31 N) S31 8 B31 R31 ds k } :=
  call_contract (E := E31 N) thOk hΓ mixed ok31.look ok31.body ok31.n ok31.rv ok31.name rfl (by decide) (loopsOk_of (l := []) (by kernel_rfl) trivial)
theorem f31_raw_eq {R : Type} (N : Nat) (x : List Int) (k : List DV → Option R) : call (E31 N) S31 8 B31 R31 [.v (.one (.ints .u8 32 x))] k = f31_raw N x k := by kernel_rfl
end Go.Proofs.Ytcgolglcjfknpaa

/- What rime/rimeref01.Reduce comes to. MADE BY PROGRAM (wip/tools/mkfn.py, EngGen.lean). -/
namespace Go.Proofs.Ytcgolglcjfknpaa
open Go Go.Eng
set_option maxRecDepth 100000
set_option linter.unusedVariables false

noncomputable def f71_raw {R : Type} (N : Nat) (e : List Int) (k : List DV → Option R) : Option R :=
 bif okE e && Decidable.decide (e.length ≤ 1000000) then bif okL (digL e) then bif okD (refN (numD (digL e) % p25519)) then k [DV.v (SV.one (At.ints IntKind.u8 32 (feN (numD (refN (numD (digL e) % p25519))))))] else Option.none else Option.none else Option.none


noncomputable def E71 (N : Nat) : Env := { Θ := Th, Γ := HE, K := K71, ν := N71, fuel := 60, lp := [] }


theorem f71_contract (N : Nat) (hΓ : CtxOk Try.prog HE) : Contract Try.prog 71 { sig := S71, impl := fun _ ds k => call (E71 N) S71 7 B71 R71 ds k } :=
  call_contract (E := E71 N) thOk hΓ mixed ok71.look ok71.body ok71.n ok71.rv ok71.name rfl (by decide) (loopsOk_of (l := []) (by kernel_rfl) trivial)
theorem f71_raw_eq {R : Type} (N : Nat) (e : List Int) (k : List DV → Option R) : call (E71 N) S71 7 B71 R71 [.lst .u8 1 e] k = f71_raw N e k := by kernel_rfl
end Go.Proofs.Ytcgolglcjfknpaa

/- What rime/rimeref01.FromInt comes to. MADE BY PROGRAM (wip/tools/mkfn.py, EngGen.lean). -/
namespace Go.Proofs.Ytcgolglcjfknpaa
open Go Go.Eng
set_option maxRecDepth 100000
set_option linter.unusedVariables false

noncomputable def f96_raw {R : Type} (N : Nat) (x : Int) (k : List DV → Option R) : Option R :=
 let v0 : Int := IntKind.i64.wrap (8 * 0);
let v1 : Int := IntKind.u64.wrap v0;
let v2 : Int := shrI IntKind.u64 x v1;
let v3 : Int := IntKind.u8.wrap v2;
let v4 : List Int := (List.replicate 32 0).set (mulE (Int.toNat 0) 1) v3;
let v5 : Int := IntKind.i64.wrap (0 + 1);
let v6 : Int := IntKind.i64.wrap (8 * v5);
let v7 : Int := IntKind.u64.wrap v6;
let v8 : Int := shrI IntKind.u64 x v7;
let v9 : Int := IntKind.u8.wrap v8;
let v10 : List Int := v4.set (mulE v5.toNat 1) v9;
let v11 : Int := IntKind.i64.wrap (v5 + 1);
let v12 : Int := IntKind.i64.wrap (8 * v11);
let v13 : Int := IntKind.u64.wrap v12;
let v14 : Int := shrI IntKind.u64 x v13;
let v15 : Int := IntKind.u8.wrap v14;
let v16 : List Int := v10.set (mulE v11.toNat 1) v15;
let v17 : Int := IntKind.i64.wrap (v11 + 1);
let v18 : Int := IntKind.i64.wrap (8 * v17);
let v19 : Int := IntKind.u64.wrap v18;
let v20 : Int := shrI IntKind.u64 x v19;
let v21 : Int := IntKind.u8.wrap v20;
let v22 : List Int := v16.set (mulE v17.toNat 1) v21;
let v23 : Int := IntKind.i64.wrap (v17 + 1);
let v24 : Int := IntKind.i64.wrap (8 * v23);
let v25 : Int := IntKind.u64.wrap v24;
let v26 : Int := shrI IntKind.u64 x v25;
let v27 : Int := IntKind.u8.wrap v26;
let v28 : List Int := v22.set (mulE v23.toNat 1) v27;
let v29 : Int := IntKind.i64.wrap (v23 + 1);
let v30 : Int := IntKind.i64.wrap (8 * v29);
let v31 : Int := IntKind.u64.wrap v30;
let v32 : Int := shrI IntKind.u64 x v31;
let v33 : Int := IntKind.u8.wrap v32;
let v34 : List Int := v28.set (mulE v29.toNat 1) v33;
let v35 : Int := IntKind.i64.wrap (v29 + 1);
let v36 : Int := IntKind.i64.wrap (8 * v35);
let v37 : Int := IntKind.u64.wrap v36;
let v38 : Int := shrI IntKind.u64 x v37;
let v39 : Int := IntKind.u8.wrap v38;
let v40 : List Int := v34.set (mulE v35.toNat 1) v39;
let v41 : Int := IntKind.i64.wrap (v35 + 1);
let v42 : Int := IntKind.i64.wrap (8 * v41);
let v43 : Int := IntKind.u64.wrap v42;
let v44 : Int := shrI IntKind.u64 x v43;
let v45 : Int := IntKind.u8.wrap v44;
let v46 : List Int := v40.set (mulE v41.toNat 1) v45;
bif okB v46 then bif okD (refN (vB v46)) then k [DV.v (SV.one (At.ints IntKind.u8 32 (feN (numD (refN (vB v46))))))] else Option.none else Option.none


noncomputable def E96 (N : Nat) : Env := { Θ := Th, Γ := HE, K := K96, ν := N96, fuel := 60, lp := [] }


theorem f96_contract (N : Nat) (hΓ : CtxOk Try.prog HE) : Contract Try.prog 96 { sig := S96, impl := fun _ ds k => call (E96 N) S96 20 B96 R96 ds k } :=
  call_contract (E := E96 N) thOk hΓ mixed ok96.look ok96.body ok96.n ok96.rv ok96.name rfl (by decide) (loopsOk_of (l := [(0, B96_0)]) (by kernel_rfl) (allOk_skip rfl trivial))
theorem f96_raw_eq {R : Type} (N : Nat) (x : Int) (k : List DV → Option R) : call (E96 N) S96 20 B96 R96 [.v (.one (.int .u64 x))] k = f96_raw N x k := by kernel_rfl
end Go.Proofs.Ytcgolglcjfknpaa

/- What rime/rimeref01.Equal comes to. MADE BY PROGRAM (wip/tools/mkfn.py, EngGen.lean). -/
namespace Go.Proofs.Ytcgolglcjfknpaa
open Go Go.Eng
set_option maxRecDepth 100000
set_option linter.unusedVariables false

noncomputable def f52_raw {R : Type} (N : Nat) (x : List Int) (y : List Int) (k : List DV → Option R) : Option R :=
 bif okB x then bif okB y then k [DV.v (SV.one (At.bool (Decidable.decide (refN (vB x) = refN (vB y)))))] else Option.none else Option.none


noncomputable def E52 (N : Nat) : Env := { Θ := Th, Γ := HE, K := K52, ν := N52, fuel := 60, lp := [] }


theorem f52_contract (N : Nat) (hΓ : CtxOk Try.prog HE) : Contract Try.prog 52 { sig := S52, impl := fun _ ds k => call (E52 N) S52 10 B52 R52 ds k } :=
  call_contract (E := E52 N) thOk hΓ mixed ok52.look ok52.body ok52.n ok52.rv ok52.name rfl (by decide) (loopsOk_of (l := []) (by kernel_rfl) trivial)
theorem f52_raw_eq {R : Type} (N : Nat) (x : List Int) (y : List Int) (k : List DV → Option R) : call (E52 N) S52 10 B52 R52 [.v (.one (.ints .u8 32 x)), .v (.one (.ints .u8 32 y))] k = f52_raw N x y k := by kernel_rfl
end Go.Proofs.Ytcgolglcjfknpaa

/- What rime/rimeref01.Select comes to. MADE BY PROGRAM (wip/tools/mkfn.py, EngGen.lean). -/
namespace Go.Proofs.Ytcgolglcjfknpaa
open Go Go.Eng
set_option maxRecDepth 100000
set_option linter.unusedVariables false

noncomputable def f54_raw {R : Type} (N : Nat) (x : List Int) (y : List Int) (c : Bool) (k : List DV → Option R) : Option R :=
 bif c then bif okB y then bif okD (refN (vB y)) then k [DV.v (SV.one (At.ints IntKind.u8 32 (feN (numD (refN (vB y))))))] else Option.none else Option.none else bif okB x then bif okD (refN (vB x)) then k [DV.v (SV.one (At.ints IntKind.u8 32 (feN (numD (refN (vB x))))))] else Option.none else Option.none


noncomputable def E54 (N : Nat) : Env := { Θ := Th, Γ := HE, K := K54, ν := N54, fuel := 60, lp := [] }


theorem f54_contract (N : Nat) (hΓ : CtxOk Try.prog HE) : Contract Try.prog 54 { sig := S54, impl := fun _ ds k => call (E54 N) S54 14 B54 R54 ds k } :=
  call_contract (E := E54 N) thOk hΓ mixed ok54.look ok54.body ok54.n ok54.rv ok54.name rfl (by decide) (loopsOk_of (l := []) (by kernel_rfl) trivial)
theorem f54_raw_eq {R : Type} (N : Nat) (x : List Int) (y : List Int) (c : Bool) (k : List DV → Option R) : call (E54 N) S54 14 B54 R54 [.v (.one (.ints .u8 32 x)), .v (.one (.ints .u8 32 y)), .v (.one (.bool c))] k = f54_raw N x y c k := by kernel_rfl
end Go.Proofs.Ytcgolglcjfknpaa

/- Squares modulo a prime: Euler, and roots where the prime is 5 modulo 8. Plain numbers, no program. -/
namespace Go.Eng

theorem sq_aux {p x y : Nat} (hp : Prm p) (hx : x < p) (hle : y ≤ x) (h : x * x % p = y * y % p) : x = y ∨ x + y = p := by
  have hd : p ∣ x * x - y * y := dvd_of_mods h.symm
  rw [Nat.mul_self_sub_mul_self_eq] at hd
  rcases hp.dvd_mul hd with h1 | h1
  · obtain ⟨k, hk⟩ := h1
    match k, hk with
    | 0, hk => left; omega
    | 1, hk => right; omega
    | k + 2, hk =>
      have : p * 2 ≤ p * (k + 2) := Nat.mul_le_mul_left p (by omega)
      omega
  · left
    have := Nat.eq_zero_of_dvd_of_lt h1 (by omega)
    omega

theorem sq_eq {p x y : Nat} (hp : Prm p) (hx : x < p) (hy : y < p) (h : x * x % p = y * y % p) : x = y ∨ x + y = p := by
  rcases Nat.le_total y x with hle | hle
  · exact sq_aux hp hx hle h
  · rcases sq_aux hp hy hle h.symm with h | h
    · exact .inl h.symm
    · right; omega

theorem sq_one {p x : Nat} (hp : Prm p) (hx : x < p) (h : x * x % p = 1) : x = 1 ∨ x = p - 1 := by
  have h2 := hp.1
  rcases sq_eq hp hx (show 1 < p by omega) (by rw [h, Nat.mul_one, Nat.mod_eq_of_lt (by omega)]) with h | h
  · exact .inl h
  · right; omega

theorem pow_not_dvd {p a : Nat} (hp : Prm p) (ha : ¬ p ∣ a) : ∀ n, ¬ p ∣ a ^ n
  | 0 => fun h => by
    rw [Nat.pow_zero] at h
    have h1 := Nat.le_of_dvd (by decide) h
    have h2 := hp.1
    omega
  | n + 1 => fun h => by
    rw [Nat.pow_succ] at h
    rcases hp.dvd_mul h with h | h
    · exact pow_not_dvd hp ha n h
    · exact ha h

theorem mod_pos {p a : Nat} (ha : ¬ p ∣ a) : a % p ≠ 0 := fun h => ha (Nat.dvd_of_mod_eq_zero h)

/-- Euler -/
theorem euler {p a h : Nat} (hp : Prm p) (hh : p = 2 * h + 1) (ha : ¬ p ∣ a) : a ^ h % p = 1 ∨ a ^ h % p = p - 1 := by
  have h2 := hp.1
  refine sq_one hp (Nat.mod_lt _ (by omega)) ?_
  rw [← Nat.mul_mod, ← Nat.pow_add, show h + h = p - 1 by omega]
  exact fermat hp ha

theorem neg_sq {p x : Nat} (hx : x ≤ p) : (p - x) * (p - x) % p = x * x % p := by
  obtain ⟨d, rfl⟩ : ∃ d, p = x + d := ⟨p - x, by omega⟩
  rw [Nat.add_sub_cancel_left]
  rcases Nat.le_total x d with h | h
  · refine (mods_of_dvd (Nat.mul_self_le_mul_self h) ?_).symm
    rw [Nat.mul_self_sub_mul_self_eq, Nat.add_comm]; exact Nat.dvd_mul_right _ _
  · refine mods_of_dvd (Nat.mul_self_le_mul_self h) ?_
    rw [Nat.mul_self_sub_mul_self_eq]; exact Nat.dvd_mul_right _ _

/-- the root that is tried: its square times v is u times a power -/
theorem root_sq (u v e : Nat) : (u * (v * v * v)) * ((u * (v * v * v)) * (v * v * v) * v) ^ e * ((u * (v * v * v)) * ((u * (v * v * v)) * (v * v * v) * v) ^ e) * v = u * (u * (v * v * v) * (v * v * v) * v) ^ (2 * e + 1) := by
  generalize hy : v * v * v = y
  rw [Nat.pow_succ, Nat.mul_comm 2 e, Nat.pow_mul]
  generalize hz : (u * y * y * v) ^ e = z
  rw [show z ^ 2 = z * z by rw [Nat.pow_succ, Nat.pow_one]]
  ac_rfl

/-- a fourth root of one, and which it is -/
theorem fourth {p w i : Nat} (hp : Prm p) (hw : w < p) (hi : i < p) (hii : i * i % p = p - 1) (h4 : w * w % p * (w * w % p) % p = 1) :
    (w * w % p = 1 ∧ (w = 1 ∨ w = p - 1)) ∨ (w * w % p = p - 1 ∧ (w = i ∨ w + i = p)) := by
  have h2 := hp.1
  rcases sq_one hp (Nat.mod_lt _ (by omega)) h4 with h | h
  · exact .inl ⟨h, sq_one hp hw h⟩
  · exact .inr ⟨h, sq_eq hp hw hi (by rw [h, hii])⟩

theorem mod_cancel {p a b c : Nat} (h : (a + c) % p = (b + c) % p) : a % p = b % p := by
  rcases Nat.le_total a b with hle | hle
  · refine mods_of_dvd hle ?_
    have := dvd_of_mods h
    rwa [Nat.add_sub_add_right] at this
  · refine (mods_of_dvd hle ?_).symm
    have := dvd_of_mods h.symm
    rwa [Nat.add_sub_add_right] at this

theorem neg_mul {p u : Nat} (hu : u ≤ p) (h0 : 0 < p) : u * (p - 1) % p = (p - u) % p := by
  refine mod_cancel (c := u) ?_
  rw [Nat.sub_add_cancel hu, Nat.mod_self]
  rw [show u * (p - 1) + u = u * (p - 1 + 1) by rw [Nat.mul_add, Nat.mul_one], Nat.sub_add_cancel h0, Nat.mul_mod_left]

theorem neg_swap {p u i : Nat} (hu : u ≤ p) (hi : i ≤ p) : u * (p - i) % p = (p - u) * i % p := by
  refine mod_cancel (c := u * i) ?_
  rw [← Nat.mul_add, ← Nat.add_mul, Nat.sub_add_cancel hu, Nat.sub_add_cancel hi, Nat.mul_mod_left, Nat.mul_mod_right]

theorem mul_cancel_aux {p u a b : Nat} (hp : Prm p) (hu : ¬ p ∣ u) (ha : a < p) (hle : b ≤ a) (h : u * a % p = u * b % p) : a = b := by
  have hd := dvd_of_mods h.symm
  rw [← Nat.mul_sub] at hd
  rcases hp.dvd_mul hd with h | h
  · exact absurd h hu
  · have := Nat.eq_zero_of_dvd_of_lt h (by omega)
    omega

theorem mul_cancel {p u a b : Nat} (hp : Prm p) (hu : ¬ p ∣ u) (ha : a < p) (hb : b < p) (h : u * a % p = u * b % p) : a = b := by
  rcases Nat.le_total b a with hle | hle
  · exact mul_cancel_aux hp hu ha hle h
  · exact (mul_cancel_aux hp hu hb hle h.symm).symm

theorem mod_pow_mod (a b n : Nat) : (a % n) ^ b % n = a ^ b % n := (Nat.pow_mod a b n).symm

end Go.Eng

/- The field as numbers: Euler, Legendre, the root of a ratio. -/
namespace Go.Proofs.Ytcgolglcjfknpaa
open Go Go.Eng
set_option maxRecDepth 100000

theorem ndvd {v : Nat} (hv : v < p25519) (h0 : v ≠ 0) : ¬ p25519 ∣ v := fun h => h0 (Nat.eq_zero_of_dvd_of_lt h hv)
theorem p_ph : p25519 = 2 * ph + 1 := by decide
theorem pw_ph {v : Nat} (hv : ¬ p25519 ∣ v) : pw v ph = 1 ∨ pw v ph = p25519 - 1 := by
  rw [pw_eq]; exact euler prm_p p_ph hv
theorem pw0 {e : Nat} (h : e ≠ 0) : pw 0 e = 0 := by rw [pw_eq, Nat.zero_pow (by omega)]; rfl
theorem leg_zero : legI 0 = 0 := by
  rw [legI_def]; unfold legR; rw [pw0 (by decide), decide_eq_true rfl, cond_true]
theorem leg_one {v : Nat} (h : pw v ph = 1) : legI v = 1 := by
  rw [legI_def]; unfold legR; rw [h, decide_eq_false (by decide), decide_eq_true rfl, cond_true, cond_false]
theorem leg_neg {v : Nat} (h : pw v ph = p25519 - 1) : legI v = -1 := by
  rw [legI_def]; unfold legR; rw [h, decide_eq_false (by decide), decide_eq_false (by decide), cond_false, cond_false]
theorem pw_mulN (a b e : Nat) : pw (mulN a b) e = mulN (pw a e) (pw b e) := by
  simp only [pw_eq, mulN_def, mod_pow_mod, Nat.mod_mul_mod, Nat.mul_mod_mod, Nat.mul_pow]
theorem leg_cases {v : Nat} (hv : v < p25519) : (v = 0 ∧ legI v = 0) ∨ (pw v ph = 1 ∧ legI v = 1) ∨ (pw v ph = p25519 - 1 ∧ legI v = -1) := by
  by_cases h : v = 0
  · exact .inl ⟨h, by rw [h]; exact leg_zero⟩
  · rcases pw_ph (ndvd hv h) with h | h
    · exact .inr (.inl ⟨h, leg_one h⟩)
    · exact .inr (.inr ⟨h, leg_neg h⟩)
theorem mulN_zero (a : Nat) : mulN a 0 = 0 := by rw [mulN_def, Nat.mul_zero]; rfl
theorem zero_mulN (a : Nat) : mulN 0 a = 0 := by rw [mulN_def, Nat.zero_mul]; rfl
theorem leg_mul {a b : Nat} (ha : a < p25519) (hb : b < p25519) : legI (mulN a b) = legI a * legI b := by
  rcases leg_cases ha with ⟨rfl, h1⟩ | ⟨g1, h1⟩ | ⟨g1, h1⟩
  · rw [zero_mulN, h1, Int.zero_mul]
  · rcases leg_cases hb with ⟨rfl, h2⟩ | ⟨g2, h2⟩ | ⟨g2, h2⟩
    · rw [mulN_zero, h2, Int.mul_zero]
    · rw [h1, h2, leg_one (by rw [pw_mulN, g1, g2, mulN_def]; decide)]; rfl
    · rw [h1, h2, leg_neg (by rw [pw_mulN, g1, g2, mulN_def]; decide)]; rfl
  · rcases leg_cases hb with ⟨rfl, h2⟩ | ⟨g2, h2⟩ | ⟨g2, h2⟩
    · rw [mulN_zero, h2, Int.mul_zero]
    · rw [h1, h2, leg_neg (by rw [pw_mulN, g1, g2, mulN_def]; decide)]; rfl
    · rw [h1, h2, leg_one (by rw [pw_mulN, g1, g2, mulN_def]; decide)]; rfl
/-- to the power p -/
theorem pw_p {v : Nat} (hv : v < p25519) : pw v p25519 = v := by
  by_cases h : v = 0
  · subst h; exact pw0 (by decide)
  · have := fermat prm_p (ndvd hv h)
    rw [pw_eq]
    obtain ⟨q, hq⟩ : ∃ q, p25519 - 1 = q := ⟨_, rfl⟩
    rw [hq] at this
    have e : p25519 = q + 1 := by rw [← hq]; decide
    rw [show v ^ p25519 % p25519 = v ^ (q + 1) % p25519 by rw [← e], Nat.pow_succ, ← Nat.mod_mul_mod, this, Nat.one_mul, Nat.mod_eq_of_lt hv]

/-- the fourth root of one -/
noncomputable def rootW (u v : Nat) : Nat := pw (u * (v * v * v) * (v * v * v) * v) 14474011154664524427946373126085988481658748083205070504932198000989141204987
theorem chN_eq (u v : Nat) : chN u v = mulN u (rootW u v) := by
  obtain ⟨e, he⟩ : ∃ e, e = 7237005577332262213973186563042994240829374041602535252466099000494570602493 := ⟨_, rfl⟩
  have h2 : 14474011154664524427946373126085988481658748083205070504932198000989141204987 = 2 * e + 1 := by rw [he]
  unfold chN rtN rootW
  rw [← he, h2]
  simp only [pw_eq, mulN_def, mod_pow_mod, Nat.mod_mul_mod, Nat.mul_mod_mod]
  rw [root_sq]
theorem rootW_lt (u v : Nat) : rootW u v < p25519 := pw_lt _ _
theorem rootW_sq {u v : Nat} (hv : ¬ p25519 ∣ v) : rootW u v * rootW u v % p25519 = pw (mulN u v) ph := by
  unfold rootW
  obtain ⟨q, hq⟩ : ∃ q, q = 14474011154664524427946373126085988481658748083205070504932198000989141204987 := ⟨_, rfl⟩
  have h2 : q + q = ph := by rw [hq]; decide
  have h3 : ph + ph = p25519 - 1 := by decide
  rw [← hq, pw_eq, ← Nat.mul_mod, ← Nat.pow_add, h2, pw_eq, mulN_def, mod_pow_mod]
  rw [show u * (v * v * v) * (v * v * v) * v = (u * v) * ((v * v * v) * (v * v * v)) by ac_rfl, Nat.mul_pow, Nat.mul_pow (v * v * v), ← Nat.pow_add, h3, ← Nat.mul_mod_mod]
  have hv3 : ¬ p25519 ∣ v * v * v := by
    intro h
    rcases prm_p.dvd_mul h with h | h
    · rcases prm_p.dvd_mul h with h | h <;> exact hv h
    · exact hv h
  rw [fermat prm_p hv3, Nat.mul_one]
theorem mulN_lt' (a b : Nat) : mulN a b < p25519 := mulN_lt a b
theorem i_sq : iN * iN % p25519 = p25519 - 1 := by decide
theorem i_lt : iN < p25519 := by decide
theorem absN_sq {a : Nat} (ha : a < p25519) : mulN (absN a) (absN a) = mulN a a := by
  rw [absN_def]
  cases hc : (a % 2 == 1)
  · rfl
  · rw [cond_true]
    have h0 : a ≠ 0 := fun h => by rw [h] at hc; exact absurd hc (by decide)
    have e : subN 0 a = p25519 - a := by rw [subN_def, Nat.zero_add, Nat.mod_eq_of_lt (by omega)]
    rw [e, mulN_def, mulN_def, neg_sq (by omega)]
theorem absN_even {a : Nat} (ha : a < p25519) : absN a % 2 = 0 := by
  rw [absN_def]
  cases hc : (a % 2 == 1)
  · rw [cond_false]
    have : ¬ a % 2 = 1 := fun h => by rw [h] at hc; exact absurd hc (by decide)
    omega
  · rw [beq_iff_eq] at hc
    have e : subN 0 a = p25519 - a := by rw [subN_def, Nat.zero_add, Nat.mod_eq_of_lt (by omega)]
    rw [cond_true, e]
    have h1 : p25519 % 2 = 1 := by decide
    omega
theorem ratN_even {u : Nat} (v : Nat) : ratN u v % 2 = 0 := by
  rw [ratN_def]; unfold ratR
  have h1 := absN_even (a := rtN u v) (mulN_lt _ _)
  have h2 := absN_even (a := mulN (rtN u v) iN) (mulN_lt _ _)
  cases decide (chN u v = u)
  · cases decide (chN u v = subN 0 u)
    · cases decide (chN u v = mulN (subN 0 u) iN)
      · exact h1
      · exact h2
    · exact h2
  · exact h1
theorem neg_eq {u : Nat} (hu : u < p25519) : subN 0 u = mulN u (p25519 - 1) := by
  rw [subN_def, mulN_def, neg_mul (by omega) (by decide), Nat.zero_add]
theorem negi_eq {u : Nat} (hu : u < p25519) : mulN (subN 0 u) iN = mulN u (p25519 - iN) := by
  rw [mulN_def, mulN_def, neg_swap (by omega) (by decide), subN_def, Nat.zero_add, Nat.mod_mul_mod]
theorem mulN_inj {u a b : Nat} (hu : u < p25519) (h0 : u ≠ 0) (ha : a < p25519) (hb : b < p25519) : (mulN u a = mulN u b) = (a = b) := by
  refine propext ⟨fun h => mul_cancel prm_p (ndvd hu h0) ha hb (by rwa [mulN_def, mulN_def] at h), fun h => by rw [h]⟩
/-- the root's square times v, and the root by i -/
theorem rt_i (u v : Nat) : mulN (mulN (mulN (rtN u v) iN) (mulN (rtN u v) iN)) v = mulN (chN u v) (p25519 - 1) := by
  have : mulN (mulN (mulN (rtN u v) iN) (mulN (rtN u v) iN)) v = mulN (chN u v) (iN * iN % p25519) := by
    unfold chN
    simp only [mulN_def, Nat.mod_mul_mod, Nat.mul_mod_mod]
    refine congrArg (· % p25519) ?_
    ac_rfl
  rw [this, i_sq]
theorem ratio {u v : Nat} (hu : u < p25519) (hv : v < p25519) (hv0 : v ≠ 0) :
    (ratB u v = true ∧ mulN (mulN (ratN u v) (ratN u v)) v = u ∧ 0 ≤ legI (mulN u v)) ∨ (ratB u v = false ∧ mulN (mulN (ratN u v) (ratN u v)) v = mulN iN u ∧ legI (mulN u v) = -1) := by
  have rl : rtN u v < p25519 := mulN_lt _ _
  have ril : mulN (rtN u v) iN < p25519 := mulN_lt _ _
  have hch := chN_eq u v
  by_cases h0 : u = 0
  · subst h0
    rw [zero_mulN] at hch
    left
    refine ⟨by rw [ratB_def, hch, decide_eq_true rfl, Bool.true_or], ?_, by rw [zero_mulN, leg_zero]; decide⟩
    rw [ratN_def]; unfold ratR
    rw [decide_eq_true hch, cond_true, absN_sq rl]
    exact hch
  · have hW := rootW_lt u v
    have hsq := rootW_sq (u := u) (ndvd hv hv0)
    have hm0 : mulN u v ≠ 0 := by
      rw [mulN_def]
      exact mod_pos fun h => (prm_p.dvd_mul h).elim (ndvd hu h0) (ndvd hv hv0)
    have hph := pw_ph (ndvd (mulN_lt u v) hm0)
    have h4 : rootW u v * rootW u v % p25519 * (rootW u v * rootW u v % p25519) % p25519 = 1 := by
      rw [hsq]
      rcases hph with h | h <;> rw [h] <;> decide
    have t1 : (chN u v = u) = (rootW u v = 1) := by
      rw [hch]; conv => lhs; rhs; rw [← mulN_one hu]
      exact mulN_inj hu h0 hW (by decide)
    have t2 : (chN u v = subN 0 u) = (rootW u v = p25519 - 1) := by
      rw [hch, neg_eq hu]; exact mulN_inj hu h0 hW (by decide)
    have t3 : (chN u v = mulN (subN 0 u) iN) = (rootW u v = p25519 - iN) := by
      rw [hch, negi_eq hu]; exact mulN_inj hu h0 hW (by decide)
    rw [ratB_def, ratN_def]; unfold ratR
    simp only [t1, t2, t3]
    rcases fourth prm_p hW i_lt i_sq h4 with ⟨hs, hw | hw⟩ | ⟨hs, hw | hw⟩
    · left
      rw [hsq] at hs
      rw [hw, decide_eq_true rfl, cond_true, absN_sq rl, leg_one hs]
      refine ⟨rfl, ?_, by decide⟩
      show chN u v = u
      rw [hch, hw, mulN_one hu]
    · left
      rw [hsq] at hs
      rw [hw, decide_eq_false (show ¬ p25519 - 1 = 1 by decide), decide_eq_true rfl, cond_true, cond_false, absN_sq ril, leg_one hs, rt_i, hch, hw]
      refine ⟨rfl, ?_, by decide⟩
      rw [mulN_assoc, show mulN (p25519 - 1) (p25519 - 1) = 1 by rw [mulN_def]; decide, mulN_one hu]
    · right
      rw [hsq] at hs
      rw [hw, decide_eq_false (show ¬ iN = 1 by decide), decide_eq_false (show ¬ iN = p25519 - 1 by decide), decide_eq_false (show ¬ iN = p25519 - iN by decide), cond_false, cond_false, cond_false, absN_sq rl, leg_neg hs]
      refine ⟨rfl, ?_, rfl⟩
      show chN u v = _
      rw [hch, hw, mulN_comm]
    · right
      have hw : rootW u v = p25519 - iN := by omega
      rw [hsq] at hs
      rw [hw, decide_eq_false (show ¬ p25519 - iN = 1 by decide), decide_eq_false (show ¬ p25519 - iN = p25519 - 1 by decide), decide_eq_true rfl, cond_false, cond_false, cond_true, absN_sq ril, leg_neg hs, rt_i, hch, hw]
      refine ⟨rfl, ?_, rfl⟩
      rw [mulN_assoc, show mulN (p25519 - iN) (p25519 - 1) = iN by rw [mulN_def]; decide, mulN_comm]
theorem ratN_v0 (u : Nat) : ratN u 0 = 0 := by
  have h : rtN u 0 = 0 := by unfold rtN; rw [mulN_zero (mulN 0 0), mulN_zero u, zero_mulN]
  rw [ratN_def]; unfold ratR
  rw [h, zero_mulN, show absN 0 = 0 by rw [absN_def]; decide]
  cases decide (chN u 0 = u) <;> cases decide (chN u 0 = subN 0 u) <;> cases decide (chN u 0 = mulN (subN 0 u) iN) <;> rfl
theorem ratB_v0 {u : Nat} (hu : u < p25519) : ratB u 0 = decide (u = 0) := by
  have hc : chN u 0 = 0 := by unfold chN; exact mulN_zero _
  rw [ratB_def, hc]
  by_cases h : u = 0
  · subst h; simp
  · have e : subN 0 u = p25519 - u := by rw [subN_def, Nat.zero_add, Nat.mod_eq_of_lt (by omega)]
    rw [e, decide_eq_false (show ¬ 0 = u by omega), decide_eq_false (show ¬ 0 = p25519 - u by omega), decide_eq_false h]; rfl
end Go.Proofs.Ytcgolglcjfknpaa

/- the document's functions, as numbers. -/
namespace Go.Proofs.Ytcgolglcjfknpaa
open Go Go.Eng
set_option maxRecDepth 100000
set_option linter.unusedSimpArgs false
theorem addN_sub {a b : Nat} : addN a (subN 0 b) = subN a b := by rw [addN_def, subN_def, subN_def, Nat.zero_add, Nat.add_mod_mod]
theorem ref_zero : List.replicate 16 (0 : Int) = refN 0 := by rw [refN_def]; decide
theorem ref_one : (List.replicate 16 (0 : Int)).set (mulE (Int.toNat 0) 1) 1 = refN 1 := by rw [refN_def]; decide
theorem ref_dec {a b : Nat} (ha : a < p25519) (hb : b < p25519) : decide (refN a = refN b) = decide (a = b) := by
  simp only [refN_inj (Nat.lt_trans ha two255) (Nat.lt_trans hb two255)]
theorem ref_odd {v : Nat} : (((refN v).getD (Int.toNat 0) 0).tmod 2 == 1) = (v % 2 == 1) := by
  rw [refN_def, show Int.toNat 0 = 0 from rfl, nats_getD, digs_getD _ _ _ _ (by decide), Nat.pow_zero, Nat.div_one]
  show ((((v % 65536 % 2 : Nat) : Int)) == 1) = _
  rw [show v % 65536 % 2 = v % 2 by omega]
  rcases Nat.mod_two_eq_zero_or_one v with h | h <;> rw [h] <;> rfl
def intL (x : Int) : List Int := [IntKind.u8.wrap (shrI .u64 x 0), IntKind.u8.wrap (shrI .u64 x 8), IntKind.u8.wrap (shrI .u64 x 16), IntKind.u8.wrap (shrI .u64 x 24), IntKind.u8.wrap (shrI .u64 x 32), IntKind.u8.wrap (shrI .u64 x 40), IntKind.u8.wrap (shrI .u64 x 48), IntKind.u8.wrap (shrI .u64 x 56)] ++ List.replicate 24 0
theorem int_eq {R : Type} (x : Int) (k : List DV → Option R) : f96_raw 0 x k = bif okB (intL x) then bif okD (refN (vB (intL x))) then k [.v (.one (.ints .u8 32 (feN (numD (refN (vB (intL x)))))))] else none else none := by kernel_rfl
theorem intL_nats (n : Nat) : intL (n : Int) = nats (digs 256 8 n ++ List.replicate 24 0) := by
  unfold intL
  rw [show shrI .u64 (n : Int) 0 = ((n / 2 ^ 0 : Nat) : Int) from shrN (k := .u64) (m := 0) (by decide) n, show shrI .u64 (n : Int) 8 = ((n / 2 ^ 8 : Nat) : Int) from shrN (k := .u64) (m := 8) (by decide) n, show shrI .u64 (n : Int) 16 = ((n / 2 ^ 16 : Nat) : Int) from shrN (k := .u64) (m := 16) (by decide) n, show shrI .u64 (n : Int) 24 = ((n / 2 ^ 24 : Nat) : Int) from shrN (k := .u64) (m := 24) (by decide) n, show shrI .u64 (n : Int) 32 = ((n / 2 ^ 32 : Nat) : Int) from shrN (k := .u64) (m := 32) (by decide) n, show shrI .u64 (n : Int) 40 = ((n / 2 ^ 40 : Nat) : Int) from shrN (k := .u64) (m := 40) (by decide) n, show shrI .u64 (n : Int) 48 = ((n / 2 ^ 48 : Nat) : Int) from shrN (k := .u64) (m := 48) (by decide) n, show shrI .u64 (n : Int) 56 = ((n / 2 ^ 56 : Nat) : Int) from shrN (k := .u64) (m := 56) (by decide) n]
  simp only [wm8, digs, Nat.div_div_eq_div_mul, Nat.pow_zero, Nat.div_one]
  rfl
theorem int_num {n : Nat} (h : n < 18446744073709551616) : okB (intL (n : Int)) = true ∧ vB (intL (n : Int)) = n := by
  rw [intL_nats]
  have hb : ∀ b ∈ digs 256 8 n ++ List.replicate 24 0, b < 256 := by
    intro b hb
    rcases List.mem_append.1 hb with hb | hb
    · exact digs_lt (by decide) b hb
    · rw [List.eq_of_mem_replicate hb]; decide
  refine ⟨okB_nats (by rw [List.length_append, digs_length, List.length_replicate]) hb, ?_⟩
  rw [vB_def, numB_nats, valB_append, digs_val, show valB 256 (List.replicate 24 0) = 0 by decide, Nat.mul_zero, Nat.add_zero]
  rw [Nat.mod_eq_of_lt (show n < 256 ^ 8 by exact h), Nat.mod_eq_of_lt (Nat.lt_trans h (by decide))]

theorem f44_num {R : Type} (x : List Int) (y : List Int) (hx : (okB x) = true) (hy : (okB y) = true) (k : List DV → Option R) : f44_raw 0 x y k = k [.v (.one (.ints .u8 32 (feN (addN (vB x) (vB y)))))] := by
  unfold f44_raw
  try dsimp only
  simp only [hx, hy, okD_refN, numD_ref (vB_lt _), numD_ref (addN_lt _ _), numD_ref (subN_lt _ _), numD_ref (mulN_lt _ _), numD_ref (pw_lt _ _), decide_eq_true (vB_lt _), Bool.and_self, cond_true]
noncomputable def I44 : (R : Type) → List DV → (List DV → Option R) → Option R := fun _ ds k => match ds with
  | [.v (.one (.ints .u8 32 x)), .v (.one (.ints .u8 32 y))] => bif okB x && okB y then k [.v (.one (.ints .u8 32 (feN (addN (vB x) (vB y)))))] else none
  | _ => none
theorem c44 : Contract Try.prog 44 { sig := S44, impl := I44 } := by
  refine Contract.refine fun R ds k r h => ⟨_, f44_contract 0 HE_ok, ?_⟩
  unfold I44 at h
  split at h
  · rename_i x y
    rcases hc : okB x && okB y with _ | _
    · rw [hc] at h; cases h
    · rw [hc, cond_true] at h
      simp only [Bool.and_eq_true] at hc
      rw [f44_raw_eq, f44_num x y hc.1 hc.2]; exact h
  · cases h

theorem f46_num {R : Type} (x : List Int) (y : List Int) (hx : (okB x) = true) (hy : (okB y) = true) (k : List DV → Option R) : f46_raw 0 x y k = k [.v (.one (.ints .u8 32 (feN (subN (vB x) (vB y)))))] := by
  unfold f46_raw
  try dsimp only
  simp only [hx, hy, okD_refN, numD_ref (vB_lt _), numD_ref (addN_lt _ _), numD_ref (subN_lt _ _), numD_ref (mulN_lt _ _), numD_ref (pw_lt _ _), decide_eq_true (vB_lt _), Bool.and_self, cond_true, addN_sub]
noncomputable def I46 : (R : Type) → List DV → (List DV → Option R) → Option R := fun _ ds k => match ds with
  | [.v (.one (.ints .u8 32 x)), .v (.one (.ints .u8 32 y))] => bif okB x && okB y then k [.v (.one (.ints .u8 32 (feN (subN (vB x) (vB y)))))] else none
  | _ => none
theorem c46 : Contract Try.prog 46 { sig := S46, impl := I46 } := by
  refine Contract.refine fun R ds k r h => ⟨_, f46_contract 0 HE_ok, ?_⟩
  unfold I46 at h
  split at h
  · rename_i x y
    rcases hc : okB x && okB y with _ | _
    · rw [hc] at h; cases h
    · rw [hc, cond_true] at h
      simp only [Bool.and_eq_true] at hc
      rw [f46_raw_eq, f46_num x y hc.1 hc.2]; exact h
  · cases h

theorem f47_num {R : Type} (x : List Int) (hx : (okB x) = true) (k : List DV → Option R) : f47_raw 0 x k = k [.v (.one (.ints .u8 32 (feN (subN 0 (vB x)))))] := by
  unfold f47_raw
  try dsimp only
  simp only [hx, okD_refN, numD_ref (vB_lt _), numD_ref (addN_lt _ _), numD_ref (subN_lt _ _), numD_ref (mulN_lt _ _), numD_ref (pw_lt _ _), decide_eq_true (vB_lt _), Bool.and_self, cond_true]
noncomputable def I47 : (R : Type) → List DV → (List DV → Option R) → Option R := fun _ ds k => match ds with
  | [.v (.one (.ints .u8 32 x))] => bif okB x then k [.v (.one (.ints .u8 32 (feN (subN 0 (vB x)))))] else none
  | _ => none
theorem c47 : Contract Try.prog 47 { sig := S47, impl := I47 } := by
  refine Contract.refine fun R ds k r h => ⟨_, f47_contract 0 HE_ok, ?_⟩
  unfold I47 at h
  split at h
  · rename_i x
    rcases hc : okB x with _ | _
    · rw [hc] at h; cases h
    · rw [hc, cond_true] at h
      rw [f47_raw_eq, f47_num x hc]; exact h
  · cases h

theorem f50_num {R : Type} (x : List Int) (y : List Int) (hx : (okB x) = true) (hy : (okB y) = true) (k : List DV → Option R) : f50_raw 0 x y k = k [.v (.one (.ints .u8 32 (feN (mulN (vB x) (vB y)))))] := by
  unfold f50_raw
  try dsimp only
  simp only [hx, hy, okD_refN, numD_ref (vB_lt _), numD_ref (addN_lt _ _), numD_ref (subN_lt _ _), numD_ref (mulN_lt _ _), numD_ref (pw_lt _ _), decide_eq_true (vB_lt _), Bool.and_self, cond_true]
noncomputable def I50 : (R : Type) → List DV → (List DV → Option R) → Option R := fun _ ds k => match ds with
  | [.v (.one (.ints .u8 32 x)), .v (.one (.ints .u8 32 y))] => bif okB x && okB y then k [.v (.one (.ints .u8 32 (feN (mulN (vB x) (vB y)))))] else none
  | _ => none
theorem c50 : Contract Try.prog 50 { sig := S50, impl := I50 } := by
  refine Contract.refine fun R ds k r h => ⟨_, f50_contract 0 HE_ok, ?_⟩
  unfold I50 at h
  split at h
  · rename_i x y
    rcases hc : okB x && okB y with _ | _
    · rw [hc] at h; cases h
    · rw [hc, cond_true] at h
      simp only [Bool.and_eq_true] at hc
      rw [f50_raw_eq, f50_num x y hc.1 hc.2]; exact h
  · cases h

theorem f26_num {R : Type} (x : List Int) (hx : (okB x) = true) (k : List DV → Option R) : f26_raw 0 x k = k [.v (.one (.ints .u8 32 (feN (pw (vB x) pm2))))] := by
  unfold f26_raw
  try dsimp only
  simp only [hx, okD_refN, numD_ref (vB_lt _), numD_ref (addN_lt _ _), numD_ref (subN_lt _ _), numD_ref (mulN_lt _ _), numD_ref (pw_lt _ _), decide_eq_true (vB_lt _), Bool.and_self, cond_true, okE_exInv, num_exInv]
  rfl
noncomputable def I26 : (R : Type) → List DV → (List DV → Option R) → Option R := fun _ ds k => match ds with
  | [.v (.one (.ints .u8 32 x))] => bif okB x then k [.v (.one (.ints .u8 32 (feN (pw (vB x) pm2))))] else none
  | _ => none
theorem c26 : Contract Try.prog 26 { sig := S26, impl := I26 } := by
  refine Contract.refine fun R ds k r h => ⟨_, f26_contract 0 HE_ok, ?_⟩
  unfold I26 at h
  split at h
  · rename_i x
    rcases hc : okB x with _ | _
    · rw [hc] at h; cases h
    · rw [hc, cond_true] at h
      rw [f26_raw_eq, f26_num x hc]; exact h
  · cases h

theorem f28_num {R : Type} (x : List Int) (e : List Int) (hx : (okB x) = true) (he : (okE e) = true) (k : List DV → Option R) : f28_raw 0 x e k = k [.v (.one (.ints .u8 32 (feN (pw (vB x) (numB e)))))] := by
  unfold f28_raw
  try dsimp only
  simp only [hx, he, okD_refN, numD_ref (vB_lt _), numD_ref (addN_lt _ _), numD_ref (subN_lt _ _), numD_ref (mulN_lt _ _), numD_ref (pw_lt _ _), decide_eq_true (vB_lt _), Bool.and_self, cond_true]
noncomputable def I28 : (R : Type) → List DV → (List DV → Option R) → Option R := fun _ ds k => match ds with
  | [.v (.one (.ints .u8 32 x)), .lst .u8 1 e] => bif okB x && okE e then k [.v (.one (.ints .u8 32 (feN (pw (vB x) (numB e)))))] else none
  | _ => none
theorem c28 : Contract Try.prog 28 { sig := S28, impl := I28 } := by
  refine Contract.refine fun R ds k r h => ⟨_, f28_contract 0 HE_ok, ?_⟩
  unfold I28 at h
  split at h
  · rename_i x e
    rcases hc : okB x && okE e with _ | _
    · rw [hc] at h; cases h
    · rw [hc, cond_true] at h
      simp only [Bool.and_eq_true] at hc
      rw [f28_raw_eq, f28_num x e hc.1 hc.2]; exact h
  · cases h

theorem f29_num {R : Type} (x : List Int) (hx : (okB x) = true) (k : List DV → Option R) : f29_raw 0 x k = k [.v (.one (.int .i64 (legI (vB x))))] := by
  unfold f29_raw
  try dsimp only
  simp only [hx, okD_refN, numD_ref (vB_lt _), numD_ref (addN_lt _ _), numD_ref (subN_lt _ _), numD_ref (mulN_lt _ _), numD_ref (pw_lt _ _), decide_eq_true (vB_lt _), Bool.and_self, cond_true, okE_exHalf, num_exHalf]
  rw [ref_zero, show (refN 0).set (mulE (Int.toNat 0) 1) 1 = refN 1 from ref_zero ▸ ref_one, ref_dec (pw_lt _ _) (by decide), ref_dec (pw_lt _ _) (by decide), legI_def]
  exact sel3 _ _ k
noncomputable def I29 : (R : Type) → List DV → (List DV → Option R) → Option R := fun _ ds k => match ds with
  | [.v (.one (.ints .u8 32 x))] => bif okB x then k [.v (.one (.int .i64 (legI (vB x))))] else none
  | _ => none
theorem c29 : Contract Try.prog 29 { sig := S29, impl := I29 } := by
  refine Contract.refine fun R ds k r h => ⟨_, f29_contract 0 HE_ok, ?_⟩
  unfold I29 at h
  split at h
  · rename_i x
    rcases hc : okB x with _ | _
    · rw [hc] at h; cases h
    · rw [hc, cond_true] at h
      rw [f29_raw_eq, f29_num x hc]; exact h
  · cases h

theorem f31_num {R : Type} (x : List Int) (hx : (okB x) = true) (k : List DV → Option R) : f31_raw 0 x k = k [.v (.one (.bool (vB x % 2 == 1)))] := by
  unfold f31_raw
  try dsimp only
  rw [hx, cond_true, ref_odd]
noncomputable def I31 : (R : Type) → List DV → (List DV → Option R) → Option R := fun _ ds k => match ds with
  | [.v (.one (.ints .u8 32 x))] => bif okB x then k [.v (.one (.bool (vB x % 2 == 1)))] else none
  | _ => none
theorem c31 : Contract Try.prog 31 { sig := S31, impl := I31 } := by
  refine Contract.refine fun R ds k r h => ⟨_, f31_contract 0 HE_ok, ?_⟩
  unfold I31 at h
  split at h
  · rename_i x
    rcases hc : okB x with _ | _
    · rw [hc] at h; cases h
    · rw [hc, cond_true] at h
      rw [f31_raw_eq, f31_num x hc]; exact h
  · cases h

theorem f71_num {R : Type} (e : List Int) (he : (okE e) = true) (hh : decide (e.length ≤ 63) = true) (k : List DV → Option R) : f71_raw 0 e k = k [.v (.one (.ints .u8 32 (feN (numB e % p25519))))] := by
  unfold f71_raw
  try dsimp only
  rw [he, okL_digL (of_decide_eq_true hh), numD_digL he, decide_eq_true (show e.length ≤ 1000000 by have := of_decide_eq_true hh; omega), okD_refN, numD_refm]
  rfl
noncomputable def I71 : (R : Type) → List DV → (List DV → Option R) → Option R := fun _ ds k => match ds with
  | [.lst .u8 1 e] => bif okE e && decide (e.length ≤ 63) then k [.v (.one (.ints .u8 32 (feN (numB e % p25519))))] else none
  | _ => none
theorem c71 : Contract Try.prog 71 { sig := S71, impl := I71 } := by
  refine Contract.refine fun R ds k r h => ⟨_, f71_contract 0 HE_ok, ?_⟩
  unfold I71 at h
  split at h
  · rename_i e
    rcases hc : okE e && decide (e.length ≤ 63) with _ | _
    · rw [hc] at h; cases h
    · rw [hc, cond_true] at h
      rw [Bool.and_eq_true] at hc; rw [f71_raw_eq, f71_num e hc.1 hc.2]; exact h
  · cases h

theorem f96_num {R : Type} (x : Int) (hx : (okU x) = true) (k : List DV → Option R) : f96_raw 0 x k = k [.v (.one (.ints .u8 32 (feN (x.toNat))))] := by
  obtain ⟨n, rfl, hn⟩ := okU_of hx
  obtain ⟨h1, h2⟩ := int_num hn
  rw [int_eq, h1, h2, okD_refN, numD_ref (Nat.lt_trans hn (by decide))]
  rfl
noncomputable def I96 : (R : Type) → List DV → (List DV → Option R) → Option R := fun _ ds k => match ds with
  | [.v (.one (.int .u64 x))] => bif okU x then k [.v (.one (.ints .u8 32 (feN (x.toNat))))] else none
  | _ => none
theorem c96 : Contract Try.prog 96 { sig := S96, impl := I96 } := by
  refine Contract.refine fun R ds k r h => ⟨_, f96_contract 0 HE_ok, ?_⟩
  unfold I96 at h
  split at h
  · rename_i x
    rcases hc : okU x with _ | _
    · rw [hc] at h; cases h
    · rw [hc, cond_true] at h
      rw [f96_raw_eq, f96_num x hc]; exact h
  · cases h

theorem f52_num {R : Type} (x : List Int) (y : List Int) (hx : (okB x) = true) (hy : (okB y) = true) (k : List DV → Option R) : f52_raw 0 x y k = k [.v (.one (.bool (decide (vB x = vB y))))] := by
  unfold f52_raw
  try dsimp only
  rw [hx, hy, cond_true, cond_true, ref_dec (vB_lt _) (vB_lt _)]
noncomputable def I52 : (R : Type) → List DV → (List DV → Option R) → Option R := fun _ ds k => match ds with
  | [.v (.one (.ints .u8 32 x)), .v (.one (.ints .u8 32 y))] => bif okB x && okB y then k [.v (.one (.bool (decide (vB x = vB y))))] else none
  | _ => none
theorem c52 : Contract Try.prog 52 { sig := S52, impl := I52 } := by
  refine Contract.refine fun R ds k r h => ⟨_, f52_contract 0 HE_ok, ?_⟩
  unfold I52 at h
  split at h
  · rename_i x y
    rcases hc : okB x && okB y with _ | _
    · rw [hc] at h; cases h
    · rw [hc, cond_true] at h
      simp only [Bool.and_eq_true] at hc
      rw [f52_raw_eq, f52_num x y hc.1 hc.2]; exact h
  · cases h

theorem f54_num {R : Type} (x : List Int) (y : List Int) (c : Bool) (hx : (okB x) = true) (hy : (okB y) = true) (k : List DV → Option R) : f54_raw 0 x y c k = k [.v (.one (.ints .u8 32 (feN (bif c then vB y else vB x))))] := by
  unfold f54_raw
  cases c
  · simp only [hx, okD_refN, numD_ref (vB_lt _), numD_ref (addN_lt _ _), numD_ref (subN_lt _ _), numD_ref (mulN_lt _ _), numD_ref (pw_lt _ _), decide_eq_true (vB_lt _), Bool.and_self, cond_true, cond_false]
  · simp only [hy, okD_refN, numD_ref (vB_lt _), numD_ref (addN_lt _ _), numD_ref (subN_lt _ _), numD_ref (mulN_lt _ _), numD_ref (pw_lt _ _), decide_eq_true (vB_lt _), Bool.and_self, cond_true]
noncomputable def I54 : (R : Type) → List DV → (List DV → Option R) → Option R := fun _ ds k => match ds with
  | [.v (.one (.ints .u8 32 x)), .v (.one (.ints .u8 32 y)), .v (.one (.bool c))] => bif okB x && okB y then k [.v (.one (.ints .u8 32 (feN (bif c then vB y else vB x))))] else none
  | _ => none
theorem c54 : Contract Try.prog 54 { sig := S54, impl := I54 } := by
  refine Contract.refine fun R ds k r h => ⟨_, f54_contract 0 HE_ok, ?_⟩
  unfold I54 at h
  split at h
  · rename_i x y c
    rcases hc : okB x && okB y with _ | _
    · rw [hc] at h; cases h
    · rw [hc, cond_true] at h
      simp only [Bool.and_eq_true] at hc
      rw [f54_raw_eq, f54_num x y c hc.1 hc.2]; exact h
  · cases h

noncomputable def HF : Ctx := (44, { sig := S44, impl := I44 }) :: (46, { sig := S46, impl := I46 }) :: (47, { sig := S47, impl := I47 }) :: (50, { sig := S50, impl := I50 }) :: (26, { sig := S26, impl := I26 }) :: (28, { sig := S28, impl := I28 }) :: (29, { sig := S29, impl := I29 }) :: (31, { sig := S31, impl := I31 }) :: (71, { sig := S71, impl := I71 }) :: (96, { sig := S96, impl := I96 }) :: (52, { sig := S52, impl := I52 }) :: (54, { sig := S54, impl := I54 }) :: HE
theorem HF_ok : CtxOk Try.prog HF := ctxOk_cons ok44 rfl c44 (ctxOk_cons ok46 rfl c46 (ctxOk_cons ok47 rfl c47 (ctxOk_cons ok50 rfl c50 (ctxOk_cons ok26 rfl c26 (ctxOk_cons ok28 rfl c28 (ctxOk_cons ok29 rfl c29 (ctxOk_cons ok31 rfl c31 (ctxOk_cons ok71 rfl c71 (ctxOk_cons ok96 rfl c96 (ctxOk_cons ok52 rfl c52 (ctxOk_cons ok54 rfl c54 HE_ok)))))))))))
end Go.Proofs.Ytcgolglcjfknpaa

/- What rime/rimeref01.Square comes to. MADE BY PROGRAM (wip/tools/mkfn.py, EngGen.lean). -/
namespace Go.Proofs.Ytcgolglcjfknpaa
open Go Go.Eng
set_option maxRecDepth 100000
set_option linter.unusedVariables false

noncomputable def f51_raw {R : Type} (N : Nat) (x : List Int) (k : List DV → Option R) : Option R :=
 bif okB x && okB x then k [DV.v (SV.one (At.ints IntKind.u8 32 (feN (mulN (vB x) (vB x)))))] else Option.none


noncomputable def E51 (N : Nat) : Env := { Θ := Th, Γ := HF, K := K51, ν := N51, fuel := 60, lp := [] }


theorem f51_contract (N : Nat) (hΓ : CtxOk Try.prog HF) : Contract Try.prog 51 { sig := S51, impl := fun _ ds k => call (E51 N) S51 6 B51 R51 ds k } :=
  call_contract (E := E51 N) thOk hΓ mixed ok51.look ok51.body ok51.n ok51.rv ok51.name rfl (by decide) (loopsOk_of (l := []) (by kernel_rfl) trivial)
theorem f51_raw_eq {R : Type} (N : Nat) (x : List Int) (k : List DV → Option R) : call (E51 N) S51 6 B51 R51 [.v (.one (.ints .u8 32 x))] k = f51_raw N x k := by kernel_rfl
end Go.Proofs.Ytcgolglcjfknpaa

/- What rime/rimeref01.Double comes to. MADE BY PROGRAM (wip/tools/mkfn.py, EngGen.lean). -/
namespace Go.Proofs.Ytcgolglcjfknpaa
open Go Go.Eng
set_option maxRecDepth 100000
set_option linter.unusedVariables false

noncomputable def f49_raw {R : Type} (N : Nat) (x : List Int) (k : List DV → Option R) : Option R :=
 bif okB x && okB x then k [DV.v (SV.one (At.ints IntKind.u8 32 (feN (addN (vB x) (vB x)))))] else Option.none


noncomputable def E49 (N : Nat) : Env := { Θ := Th, Γ := HF, K := K49, ν := N49, fuel := 60, lp := [] }


theorem f49_contract (N : Nat) (hΓ : CtxOk Try.prog HF) : Contract Try.prog 49 { sig := S49, impl := fun _ ds k => call (E49 N) S49 6 B49 R49 ds k } :=
  call_contract (E := E49 N) thOk hΓ mixed ok49.look ok49.body ok49.n ok49.rv ok49.name rfl (by decide) (loopsOk_of (l := []) (by kernel_rfl) trivial)
theorem f49_raw_eq {R : Type} (N : Nat) (x : List Int) (k : List DV → Option R) : call (E49 N) S49 6 B49 R49 [.v (.one (.ints .u8 32 x))] k = f49_raw N x k := by kernel_rfl
end Go.Proofs.Ytcgolglcjfknpaa

/- What rime/rimeref01.Abs comes to. MADE BY PROGRAM (wip/tools/mkfn.py, EngGen.lean). -/
namespace Go.Proofs.Ytcgolglcjfknpaa
open Go Go.Eng
set_option maxRecDepth 100000
set_option linter.unusedVariables false

noncomputable def f33_raw {R : Type} (N : Nat) (x : List Int) (k : List DV → Option R) : Option R :=
 bif okB x then bif vB x % 2 == 1 then bif okB x then k [DV.v (SV.one (At.ints IntKind.u8 32 (feN (subN 0 (vB x)))))] else Option.none else bif okB x then bif okD (refN (vB x)) then k [DV.v (SV.one (At.ints IntKind.u8 32 (feN (numD (refN (vB x))))))] else Option.none else Option.none else Option.none


noncomputable def E33 (N : Nat) : Env := { Θ := Th, Γ := HF, K := K33, ν := N33, fuel := 60, lp := [] }


theorem f33_contract (N : Nat) (hΓ : CtxOk Try.prog HF) : Contract Try.prog 33 { sig := S33, impl := fun _ ds k => call (E33 N) S33 10 B33 R33 ds k } :=
  call_contract (E := E33 N) thOk hΓ mixed ok33.look ok33.body ok33.n ok33.rv ok33.name rfl (by decide) (loopsOk_of (l := []) (by kernel_rfl) trivial)
theorem f33_raw_eq {R : Type} (N : Nat) (x : List Int) (k : List DV → Option R) : call (E33 N) S33 10 B33 R33 [.v (.one (.ints .u8 32 x))] k = f33_raw N x k := by kernel_rfl
end Go.Proofs.Ytcgolglcjfknpaa

/- What rime/rimeref01.D comes to. MADE BY PROGRAM (wip/tools/mkfn.py, EngGen.lean). -/
namespace Go.Proofs.Ytcgolglcjfknpaa
open Go Go.Eng
set_option maxRecDepth 100000
set_option linter.unusedVariables false

noncomputable def f38_raw {R : Type} (N : Nat)  (k : List DV → Option R) : Option R :=
 bif okB (feN (Int.toNat 121665)) then bif okB (feN (Int.toNat 121666)) then bif okB (feN (subN 0 (vB (feN (Int.toNat 121665))))) && okB (feN (pw (vB (feN (Int.toNat 121666))) pm2)) then k [DV.v (SV.one (At.ints IntKind.u8 32 (feN (mulN (vB (feN (subN 0 (vB (feN (Int.toNat 121665)))))) (vB (feN (pw (vB (feN (Int.toNat 121666))) pm2)))))))] else Option.none else Option.none else Option.none


noncomputable def E38 (N : Nat) : Env := { Θ := Th, Γ := HF, K := K38, ν := N38, fuel := 60, lp := [] }


theorem f38_contract (N : Nat) (hΓ : CtxOk Try.prog HF) : Contract Try.prog 38 { sig := S38, impl := fun _ ds k => call (E38 N) S38 6 B38 R38 ds k } :=
  call_contract (E := E38 N) thOk hΓ mixed ok38.look ok38.body ok38.n ok38.rv ok38.name rfl (by decide) (loopsOk_of (l := []) (by kernel_rfl) trivial)
theorem f38_raw_eq {R : Type} (N : Nat)  (k : List DV → Option R) : call (E38 N) S38 6 B38 R38 [] k = f38_raw N  k := by kernel_rfl
end Go.Proofs.Ytcgolglcjfknpaa

/- the document's functions, as numbers: Square, Double, Abs, D. -/
namespace Go.Proofs.Ytcgolglcjfknpaa
open Go Go.Eng
set_option maxRecDepth 100000
set_option linter.unusedSimpArgs false

theorem f51_num {R : Type} (x : List Int) (hx : (okB x) = true) (k : List DV → Option R) : f51_raw 0 x k = k [.v (.one (.ints .u8 32 (feN (mulN (vB x) (vB x)))))] := by
  unfold f51_raw
  try dsimp only
  simp only [hx, okD_refN, okB_feN, numD_ref (vB_lt _), Bool.and_self, cond_true]
noncomputable def I51 : (R : Type) → List DV → (List DV → Option R) → Option R := fun _ ds k => match ds with
  | [.v (.one (.ints .u8 32 x))] => bif okB x then k [.v (.one (.ints .u8 32 (feN (mulN (vB x) (vB x)))))] else none
  | _ => none
theorem c51 : Contract Try.prog 51 { sig := S51, impl := I51 } := by
  refine Contract.refine fun R ds k r h => ⟨_, f51_contract 0 HF_ok, ?_⟩
  unfold I51 at h
  split at h
  · rename_i x
    rcases hc : okB x with _ | _
    · rw [hc] at h; cases h
    · rw [hc, cond_true] at h
      rw [f51_raw_eq, f51_num x hc]; exact h
  · cases h

theorem f49_num {R : Type} (x : List Int) (hx : (okB x) = true) (k : List DV → Option R) : f49_raw 0 x k = k [.v (.one (.ints .u8 32 (feN (addN (vB x) (vB x)))))] := by
  unfold f49_raw
  try dsimp only
  simp only [hx, okD_refN, okB_feN, numD_ref (vB_lt _), Bool.and_self, cond_true]
noncomputable def I49 : (R : Type) → List DV → (List DV → Option R) → Option R := fun _ ds k => match ds with
  | [.v (.one (.ints .u8 32 x))] => bif okB x then k [.v (.one (.ints .u8 32 (feN (addN (vB x) (vB x)))))] else none
  | _ => none
theorem c49 : Contract Try.prog 49 { sig := S49, impl := I49 } := by
  refine Contract.refine fun R ds k r h => ⟨_, f49_contract 0 HF_ok, ?_⟩
  unfold I49 at h
  split at h
  · rename_i x
    rcases hc : okB x with _ | _
    · rw [hc] at h; cases h
    · rw [hc, cond_true] at h
      rw [f49_raw_eq, f49_num x hc]; exact h
  · cases h

theorem selA {R : Type} (c : Bool) (a b : Nat) (k : List DV → Option R) : (bif c then k [.v (.one (.ints .u8 32 (feN a)))] else k [.v (.one (.ints .u8 32 (feN b)))]) = k [.v (.one (.ints .u8 32 (feN (bif c then a else b))))] := by cases c <;> rfl

theorem f33_num {R : Type} (x : List Int) (hx : (okB x) = true) (k : List DV → Option R) : f33_raw 0 x k = k [.v (.one (.ints .u8 32 (feN (absN (vB x)))))] := by
  unfold f33_raw
  try dsimp only
  simp only [hx, okD_refN, okB_feN, numD_ref (vB_lt _), Bool.and_self, cond_true]
  rw [absN_def]
  exact selA _ _ _ k
noncomputable def I33 : (R : Type) → List DV → (List DV → Option R) → Option R := fun _ ds k => match ds with
  | [.v (.one (.ints .u8 32 x))] => bif okB x then k [.v (.one (.ints .u8 32 (feN (absN (vB x)))))] else none
  | _ => none
theorem c33 : Contract Try.prog 33 { sig := S33, impl := I33 } := by
  refine Contract.refine fun R ds k r h => ⟨_, f33_contract 0 HF_ok, ?_⟩
  unfold I33 at h
  split at h
  · rename_i x
    rcases hc : okB x with _ | _
    · rw [hc] at h; cases h
    · rw [hc, cond_true] at h
      rw [f33_raw_eq, f33_num x hc]; exact h
  · cases h

theorem f38_num {R : Type}   (k : List DV → Option R) : f38_raw 0  k = k [.v (.one (.ints .u8 32 (feN (dN))))] := by
  unfold f38_raw
  try dsimp only
  simp only [okB_feN, cond_true, Bool.and_self]
  rw [vB_feN (v := Int.toNat 121665) (by decide), vB_feN (v := Int.toNat 121666) (by decide), vB_feN (pw_lt _ _), vB_feN (subN_lt _ _)]
  rw [show mulN (subN 0 (Int.toNat 121665)) (pw (Int.toNat 121666) pm2) = dN by rw [subN_def, mulN_def, pw_pm]; decide +kernel]
noncomputable def I38 : (R : Type) → List DV → (List DV → Option R) → Option R := fun _ ds k => match ds with
  | [] => k [.v (.one (.ints .u8 32 (feN (dN))))]
  | _ => none
theorem c38 : Contract Try.prog 38 { sig := S38, impl := I38 } := by
  refine Contract.refine fun R ds k r h => ⟨_, f38_contract 0 HF_ok, ?_⟩
  unfold I38 at h
  split at h
  · rw [f38_raw_eq, f38_num]; exact h
  · cases h

noncomputable def HG : Ctx := (51, { sig := S51, impl := I51 }) :: (49, { sig := S49, impl := I49 }) :: (33, { sig := S33, impl := I33 }) :: (38, { sig := S38, impl := I38 }) :: HF
theorem HG_ok : CtxOk Try.prog HG := ctxOk_cons ok51 rfl c51 (ctxOk_cons ok49 rfl c49 (ctxOk_cons ok33 rfl c33 (ctxOk_cons ok38 rfl c38 HF_ok)))
end Go.Proofs.Ytcgolglcjfknpaa

/- What rime/rimeref01.SqrtM1 comes to. MADE BY PROGRAM (wip/tools/mkfn.py, EngGen.lean). -/
namespace Go.Proofs.Ytcgolglcjfknpaa
open Go Go.Eng
set_option maxRecDepth 100000
set_option linter.unusedVariables false

noncomputable def f40_raw {R : Type} (N : Nat)  (k : List DV → Option R) : Option R :=
 bif okB (feN (Int.toNat 2)) && okE exQuar then bif okB (feN (pw (vB (feN (Int.toNat 2))) (numB exQuar))) then k [DV.v (SV.one (At.ints IntKind.u8 32 (feN (absN (vB (feN (pw (vB (feN (Int.toNat 2))) (numB exQuar))))))))] else Option.none else Option.none


noncomputable def E40 (N : Nat) : Env := { Θ := Th, Γ := HG, K := K40, ν := N40, fuel := 0, lp := [] }


theorem f40_contract (N : Nat) (hΓ : CtxOk Try.prog HG) : Contract Try.prog 40 { sig := S40, impl := fun _ ds k => call (E40 N) S40 5 B40 R40 ds k } :=
  call_contract (E := E40 N) thOk hΓ mixed ok40.look ok40.body ok40.n ok40.rv ok40.name rfl (by decide) (loopsOk_of (l := []) (by kernel_rfl) trivial)
theorem f40_raw_eq {R : Type} (N : Nat)  (k : List DV → Option R) : call (E40 N) S40 5 B40 R40 [] k = f40_raw N  k := by kernel_rfl
end Go.Proofs.Ytcgolglcjfknpaa

/- the document's functions, as numbers: SqrtM1. -/
namespace Go.Proofs.Ytcgolglcjfknpaa
open Go Go.Eng
set_option maxRecDepth 100000
set_option linter.unusedSimpArgs false

theorem f40_num {R : Type}   (k : List DV → Option R) : f40_raw 0  k = k [.v (.one (.ints .u8 32 (feN (iN))))] := by
  unfold f40_raw
  simp only [okB_feN, okE_exQuar, num_exQuar, cond_true, Bool.and_self]
  rw [vB_feN (v := Int.toNat 2) (by decide), vB_feN (pw_lt _ _)]
  rw [show absN (pw (Int.toNat 2) 14474011154664524427946373126085988481658748083205070504932198000989141204987) = iN by rw [absN_def, subN_def, pw_pm]; decide +kernel]
noncomputable def I40 : (R : Type) → List DV → (List DV → Option R) → Option R := fun _ ds k => match ds with
  | [] => k [.v (.one (.ints .u8 32 (feN (iN))))]
  | _ => none
theorem c40 : Contract Try.prog 40 { sig := S40, impl := I40 } := by
  refine Contract.refine fun R ds k r h => ⟨_, f40_contract 0 HG_ok, ?_⟩
  unfold I40 at h
  split at h
  · rw [f40_raw_eq, f40_num]; exact h
  · cases h

noncomputable def HH : Ctx := (40, { sig := S40, impl := I40 }) :: HG
theorem HH_ok : CtxOk Try.prog HH := ctxOk_cons ok40 rfl c40 HG_ok
end Go.Proofs.Ytcgolglcjfknpaa

/- What rime/rimeref01.root comes to. MADE BY PROGRAM (wip/tools/mkfn.py, EngGen.lean). -/
namespace Go.Proofs.Ytcgolglcjfknpaa
open Go Go.Eng
set_option maxRecDepth 100000
set_option linter.unusedVariables false

noncomputable def f95_raw {R : Type} (N : Nat) (x : List Int) (k : List DV → Option R) : Option R :=
 bif okB x && okE exRoot then bif okB (feN (pw (vB x) (numB exRoot))) then bif okB x then bif okD (refN (vB x)) then bif !Decidable.decide (feN (mulN (vB (feN (pw (vB x) (numB exRoot)))) (vB (feN (pw (vB x) (numB exRoot))))) = feN (numD (refN (vB x)))) then bif okB (feN (pw (vB x) (numB exRoot))) && okB (feN iN) then bif okB (feN (mulN (vB (feN (pw (vB x) (numB exRoot)))) (vB (feN iN)))) then k [DV.v (SV.one (At.ints IntKind.u8 32 (feN (absN (vB (feN (mulN (vB (feN (pw (vB x) (numB exRoot)))) (vB (feN iN)))))))))] else Option.none else Option.none else bif okB (feN (pw (vB x) (numB exRoot))) then k [DV.v (SV.one (At.ints IntKind.u8 32 (feN (absN (vB (feN (pw (vB x) (numB exRoot))))))))] else Option.none else Option.none else Option.none else Option.none else Option.none


noncomputable def E95 (N : Nat) : Env := { Θ := Th, Γ := HH, K := K95, ν := N95, fuel := 0, lp := [] }


theorem f95_contract (N : Nat) (hΓ : CtxOk Try.prog HH) : Contract Try.prog 95 { sig := S95, impl := fun _ ds k => call (E95 N) S95 18 B95 R95 ds k } :=
  call_contract (E := E95 N) thOk hΓ mixed ok95.look ok95.body ok95.n ok95.rv ok95.name rfl (by decide) (loopsOk_of (l := []) (by kernel_rfl) trivial)
theorem f95_raw_eq {R : Type} (N : Nat) (x : List Int) (k : List DV → Option R) : call (E95 N) S95 18 B95 R95 [.v (.one (.ints .u8 32 x))] k = f95_raw N x k := by kernel_rfl
end Go.Proofs.Ytcgolglcjfknpaa

/- the document's root. -/
namespace Go.Proofs.Ytcgolglcjfknpaa
open Go Go.Eng
set_option maxRecDepth 100000
set_option linter.unusedSimpArgs false
noncomputable def rootS : Nat → Nat := (stk fun v => bif !decide (mulN (pw v 7237005577332262213973186563042994240829374041602535252466099000494570602494) (pw v 7237005577332262213973186563042994240829374041602535252466099000494570602494) = v) then absN (mulN (pw v 7237005577332262213973186563042994240829374041602535252466099000494570602494) iN) else absN (pw v 7237005577332262213973186563042994240829374041602535252466099000494570602494)).1
theorem rootS_def (v : Nat) : rootS v = bif !decide (mulN (pw v 7237005577332262213973186563042994240829374041602535252466099000494570602494) (pw v 7237005577332262213973186563042994240829374041602535252466099000494570602494) = v) then absN (mulN (pw v 7237005577332262213973186563042994240829374041602535252466099000494570602494) iN) else absN (pw v 7237005577332262213973186563042994240829374041602535252466099000494570602494) := congrFun (stk fun v => bif !decide (mulN (pw v 7237005577332262213973186563042994240829374041602535252466099000494570602494) (pw v 7237005577332262213973186563042994240829374041602535252466099000494570602494) = v) then absN (mulN (pw v 7237005577332262213973186563042994240829374041602535252466099000494570602494) iN) else absN (pw v 7237005577332262213973186563042994240829374041602535252466099000494570602494)).2 v
theorem rootS_lt (v : Nat) : rootS v < p25519 := by
  rw [rootS_def]; exact bif_lt _ (absN_lt (mulN_lt _ _)) (absN_lt (pw_lt _ _))
theorem rootS_even (v : Nat) : rootS v % 2 = 0 := by
  rw [rootS_def]
  cases decide (mulN (pw v 7237005577332262213973186563042994240829374041602535252466099000494570602494) (pw v 7237005577332262213973186563042994240829374041602535252466099000494570602494) = v)
  · exact absN_even (mulN_lt _ _)
  · exact absN_even (pw_lt _ _)
/-- of a square it is the root -/
theorem rootS_sq {w : Nat} (hw : w < p25519) (h : pw w ph = 1) : mulN (rootS w) (rootS w) = w := by
  rw [rootS_def]
  obtain ⟨e, he⟩ : ∃ e, e = 7237005577332262213973186563042994240829374041602535252466099000494570602494 := ⟨_, rfl⟩
  rw [← he]
  have hs : mulN (pw w e) (pw w e) = w ∨ mulN (pw w e) (pw w e) = mulN w (p25519 - 1) := by
    obtain ⟨q, hq⟩ : ∃ q, q = 14474011154664524427946373126085988481658748083205070504932198000989141204987 := ⟨_, rfl⟩
    have h1 : mulN (pw w e) (pw w e) = mulN w (pw w q) := by
      rw [mulN_def, mulN_def, pw_eq, pw_eq, ← Nat.mul_mod, ← Nat.pow_add, Nat.mul_mod_mod]
      rw [show e + e = q + 1 by rw [he, hq], Nat.pow_succ, Nat.mul_comm]
    rw [h1]
    have h2 : pw w q * pw w q % p25519 = 1 := by
      have h9 : q + q = ph := by rw [hq]; decide
      rw [← h, pw_eq, pw_eq, ← Nat.mul_mod, ← Nat.pow_add, h9]
    rcases sq_one prm_p (pw_lt _ _) h2 with h3 | h3
    · left; rw [h3, mulN_one hw]
    · right; rw [h3]
  by_cases h4 : mulN (pw w e) (pw w e) = w
  · rw [decide_eq_true h4]
    show mulN (absN (pw w e)) (absN (pw w e)) = w
    rw [absN_sq (pw_lt _ _), h4]
  · rw [decide_eq_false h4]
    show mulN (absN (mulN (pw w e) iN)) (absN (mulN (pw w e) iN)) = w
    rw [absN_sq (mulN_lt _ _)]
    rcases hs with h5 | h5
    · exact absurd h5 h4
    · have : mulN (mulN (pw w e) iN) (mulN (pw w e) iN) = mulN (mulN (pw w e) (pw w e)) (iN * iN % p25519) := by
        simp only [mulN_def, Nat.mod_mul_mod, Nat.mul_mod_mod]
        refine congrArg (· % p25519) ?_
        ac_rfl
      rw [this, i_sq, h5, mulN_assoc, show mulN (p25519 - 1) (p25519 - 1) = 1 by rw [mulN_def]; decide, mulN_one hw]
theorem even_root {a b : Nat} (ha : a < p25519) (hb : b < p25519) (ea : a % 2 = 0) (eb : b % 2 = 0) (h : mulN a a = mulN b b) : a = b := by
  rw [mulN_def, mulN_def] at h
  rcases sq_eq prm_p ha hb h with h | h
  · exact h
  · have : p25519 % 2 = 1 := by decide
    omega
theorem leg_i : legI iN = -1 := by
  refine leg_neg ?_
  rw [pw_pm]; decide +kernel
noncomputable def refQ (u v : Nat) : Nat := mulN u (pw v pm2)
theorem refQ_mul {u v : Nat} (hu : u < p25519) (hv : v < p25519) (h0 : v ≠ 0) : mulN (refQ u v) v = u := by
  unfold refQ
  rw [mulN_assoc, mulN_comm (pw v pm2) v, mulN_inv hv h0, mulN_one hu]
theorem leg_sq {v : Nat} (hv : v < p25519) (h0 : v ≠ 0) : legI (mulN v v) = 1 := by
  rw [leg_mul hv hv]
  rcases leg_cases hv with ⟨h, _⟩ | ⟨_, h⟩ | ⟨_, h⟩
  · exact absurd h h0
  · rw [h]; rfl
  · rw [h]; rfl
theorem leg_ratio {u v : Nat} (hu : u < p25519) (hv : v < p25519) (h0 : v ≠ 0) : legI (refQ u v) = legI (mulN u v) := by
  have h1 : mulN u v = mulN (refQ u v) (mulN v v) := by rw [← mulN_assoc, refQ_mul hu hv h0]
  rw [h1, leg_mul (show refQ u v < p25519 from mulN_lt _ _) (mulN_lt _ _), leg_sq hv h0, Int.mul_one]
theorem pw_of_leg {v : Nat} (hv : v < p25519) (h : legI v = 1) : pw v ph = 1 := by
  rcases leg_cases hv with ⟨_, h2⟩ | ⟨h1, _⟩ | ⟨_, h2⟩
  · rw [h2] at h; exact absurd h (by decide)
  · exact h1
  · rw [h2] at h; exact absurd h (by decide)
theorem mul_right_cancel {a b v : Nat} (ha : a < p25519) (hb : b < p25519) (hv : v < p25519) (h0 : v ≠ 0) (h : mulN a v = mulN b v) : a = b := by
  have : mulN (mulN a v) (pw v pm2) = mulN (mulN b v) (pw v pm2) := by rw [h]
  rwa [mulN_assoc, mulN_assoc, mulN_inv hv h0, mulN_one ha, mulN_one hb] at this
/-- the document's root of a ratio is the program's -/
theorem ref_rat {u v : Nat} (hu : u < p25519) (hv : v < p25519) (hu0 : u ≠ 0) (hv0 : v ≠ 0) :
    (legI (refQ u v) = 1 ∧ ratB u v = true ∧ rootS (refQ u v) = ratN u v) ∨ (legI (refQ u v) ≠ 1 ∧ ratB u v = false ∧ rootS (mulN (refQ u v) iN) = ratN u v) := by
  have hq : refQ u v < p25519 := mulN_lt _ _
  have hl := leg_ratio hu hv hv0
  rcases ratio hu hv hv0 with ⟨h1, h2, h3⟩ | ⟨h1, h2, h3⟩
  · left
    have h5 : legI (refQ u v) = 1 := by
      rcases leg_cases hq with ⟨h, _⟩ | ⟨_, h⟩ | ⟨_, h⟩
      · have := refQ_mul hu hv hv0
        rw [h, zero_mulN] at this
        exact absurd this.symm hu0
      · exact h
      · rw [← hl, h] at h3; exact absurd h3 (by decide)
    refine ⟨h5, h1, even_root (rootS_lt _) (ratN_lt v) (rootS_even _) (ratN_even v) ?_⟩
    rw [rootS_sq hq (pw_of_leg hq h5)]
    exact mul_right_cancel hq (mulN_lt _ _) hv hv0 (by rw [h2, refQ_mul hu hv hv0])
  · right
    have h5 : legI (refQ u v) = -1 := by rw [hl, h3]
    have h6 : mulN (refQ u v) iN < p25519 := mulN_lt _ _
    refine ⟨by rw [h5]; decide, h1, even_root (rootS_lt _) (ratN_lt v) (rootS_even _) (ratN_even v) ?_⟩
    rw [rootS_sq h6 (pw_of_leg h6 (by rw [leg_mul hq i_lt, h5, leg_i]; rfl))]
    refine mul_right_cancel h6 (mulN_lt _ _) hv hv0 ?_
    rw [h2, mulN_assoc, mulN_comm iN v, ← mulN_assoc, refQ_mul hu hv hv0, mulN_comm]

theorem f95_num {R : Type} (x : List Int) (hx : (okB x) = true) (k : List DV → Option R) : f95_raw 0 x k = k [.v (.one (.ints .u8 32 (feN (rootS (vB x)))))] := by
  unfold f95_raw
  simp only [hx, okD_refN, okB_feN, numD_ref (vB_lt _), vB_feN (pw_lt _ _), vB_feN (mulN_lt _ _), vB_feN i_lt, okE_exRoot, num_exRoot, Bool.and_self, cond_true]
  rw [dec_feN (mulN_lt _ _) (vB_lt _), rootS_def]
  exact selA _ _ _ k
noncomputable def I95 : (R : Type) → List DV → (List DV → Option R) → Option R := fun _ ds k => match ds with
  | [.v (.one (.ints .u8 32 x))] => bif okB x then k [.v (.one (.ints .u8 32 (feN (rootS (vB x)))))] else none
  | _ => none
theorem c95 : Contract Try.prog 95 { sig := S95, impl := I95 } := by
  refine Contract.refine fun R ds k r h => ⟨_, f95_contract 0 HH_ok, ?_⟩
  unfold I95 at h
  split at h
  · rename_i x
    rcases hc : okB x with _ | _
    · rw [hc] at h; cases h
    · rw [hc, cond_true] at h
      rw [f95_raw_eq, f95_num x hc]; exact h
  · cases h

noncomputable def HI : Ctx := (95, { sig := S95, impl := I95 }) :: HH
theorem HI_ok : CtxOk Try.prog HI := ctxOk_cons ok95 rfl c95 HH_ok
end Go.Proofs.Ytcgolglcjfknpaa

/- What rime/rimeref01.SqrtRatio comes to. MADE BY PROGRAM (wip/tools/mkfn.py, EngGen.lean). -/
namespace Go.Proofs.Ytcgolglcjfknpaa
open Go Go.Eng
set_option maxRecDepth 100000
set_option linter.unusedVariables false

noncomputable def f36_raw {R : Type} (N : Nat) (x : List Int) (y : List Int) (k : List DV → Option R) : Option R :=
 bif okB x then bif Decidable.decide (refN (vB x) = List.replicate 16 0) then k [DV.v (SV.one (At.ints IntKind.u8 32 (List.replicate 32 0))), DV.v (SV.one (At.bool Bool.true))] else bif okB y then bif Decidable.decide (refN (vB y) = List.replicate 16 0) then k [DV.v (SV.one (At.ints IntKind.u8 32 (List.replicate 32 0))), DV.v (SV.one (At.bool Bool.false))] else bif okB y then bif okB x && okB (feN (pw (vB y) pm2)) then bif okB (feN (mulN (vB x) (vB (feN (pw (vB y) pm2))))) then bif legI (vB (feN (mulN (vB x) (vB (feN (pw (vB y) pm2)))))) == 1 then bif okB (feN (mulN (vB x) (vB (feN (pw (vB y) pm2))))) then k [DV.v (SV.one (At.ints IntKind.u8 32 (feN (rootS (vB (feN (mulN (vB x) (vB (feN (pw (vB y) pm2)))))))))), DV.v (SV.one (At.bool Bool.true))] else Option.none else bif okB (feN (mulN (vB x) (vB (feN (pw (vB y) pm2))))) && okB (feN iN) then bif okB (feN (mulN (vB (feN (mulN (vB x) (vB (feN (pw (vB y) pm2)))))) (vB (feN iN)))) then k [DV.v (SV.one (At.ints IntKind.u8 32 (feN (rootS (vB (feN (mulN (vB (feN (mulN (vB x) (vB (feN (pw (vB y) pm2)))))) (vB (feN iN))))))))), DV.v (SV.one (At.bool Bool.false))] else Option.none else Option.none else Option.none else Option.none else Option.none else Option.none else Option.none


noncomputable def E36 (N : Nat) : Env := { Θ := Th, Γ := HI, K := K36, ν := N36, fuel := 0, lp := [] }


theorem f36_contract (N : Nat) (hΓ : CtxOk Try.prog HI) : Contract Try.prog 36 { sig := S36, impl := fun _ ds k => call (E36 N) S36 30 B36 R36 ds k } :=
  call_contract (E := E36 N) thOk hΓ mixed ok36.look ok36.body ok36.n ok36.rv ok36.name rfl (by decide) (loopsOk_of (l := []) (by kernel_rfl) trivial)
theorem f36_raw_eq {R : Type} (N : Nat) (x : List Int) (y : List Int) (k : List DV → Option R) : call (E36 N) S36 30 B36 R36 [.v (.one (.ints .u8 32 x)), .v (.one (.ints .u8 32 y))] k = f36_raw N x y k := by kernel_rfl
end Go.Proofs.Ytcgolglcjfknpaa

