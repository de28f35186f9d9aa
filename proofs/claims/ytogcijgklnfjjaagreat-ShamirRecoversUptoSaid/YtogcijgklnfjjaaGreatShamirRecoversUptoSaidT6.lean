/- ShamirRecovers: for any shares, place and threshold whose data stay within 1,048,576: Interpolate, Recover and Consistent answer as the document. -/
import Derived.Test.YtogcijgklnfjjaaGreatShamirRecoversUptoSaidT5
import Derived.WalkKit
import Derived.ProofKit
import Derived.JoinedCond
set_option linter.unusedVariables false
set_option linter.unusedSimpArgs false

namespace Go.Proofs.YtogcijgklnfjjaaGreat
noncomputable section
open Go Go.Eng
set_option maxRecDepth 100000
set_option linter.unusedVariables false
def f47_0_sh : Shp := ⟨20, 1, [(0, .one (.fix (.own 0))), (3, .one (.fix (.own 1000003))), (4, .one (.int .i64))], [(1000003, .row (.one .u8) 32), (0, .view (.one .i64) 1)]⟩
def f47_0_ex1 : Shp := ⟨20, 1, [(8, .one .bool), (0, .one (.fix (.own 0))), (3, .one (.fix (.own 1000003))), (4, .one (.int .i64))], [(1000003, .row (.one .u8) 32), (0, .view (.one .i64) 1)]⟩
def f47_0_st {R : Type} (N : Nat) (self : Int → List Int → List Int → Option R) (k1 : Bool → Int → List Int → List Int → Option R) (x1 : Int) (x2 x3 : List Int) : Option R :=
 bif decide (x1 < nI (rowLen 1 x3)) then
 bif decide (0 ≤ x1) && decide (x1 < nI (rowLen 1 x3)) then
 let v0 := splice (zerosOf (1 * 32)) (.at (0 * 32)) (sN (plN (x3.getD (mulE x1.toNat 1) 0)));
 bif ((2 * (rowLen 32 x2 + rowLen 32 v0) + 192) * 32).ble big48 && (rowLen 32 x2 + rowLen 32 v0).ble big48 then
 let v1 := IntKind.i64.wrap (x1 + 1);
 let v2 : List Int := x2 ++ v0;
 self v1 v2 x3
 else none
 else none
else k1 (decide (x1 < nI (rowLen 1 x3))) x1 x2 x3
def f47_0_lp {R : Type} (N : Nat) (k1 : Bool → Int → List Int → List Int → Option R) : Nat → Int → List Int → List Int → Option R
 | 0, _, _, _ => none
 | n + 1, x1, x2, x3 => f47_0_st N (f47_0_lp N k1 n) k1 x1 x2 x3
def f47_0_F (N : Nat) : (R : Type) → List Leaf → (X → AS → Option R) → Option R := fun _ ls K => match ls with
 | [.i x1, .l x2, .l x3] => f47_0_lp N (fun y1 y2 y3 y4 => K .normal (fill f47_0_ex1 [.b y1, .i y2, .l y3, .l y4])) N x1 x2 x3
 | _ => none
def f47_raw {R : Type} (N : Nat) (ids : List Int) (k : List DV → Option R) : Option R :=
 f47_0_lp N (fun w0_1 w0_2 w0_3 w0_4 => k [.lst (.one .u8) 32 w0_3]) N 0 [] ids
def E47 (N : Nat) : Env := { Θ := Th, Γ := GP0, K := K47, ν := N47, fuel := 0, lp := [(0, mkL N47_0 f47_0_sh (f47_0_F N))] }
theorem f47_0_st_eq {R : Type} (N : Nat) (K : X → AS → Option R) (n : Nat) (x1 : Int) (x2 x3 : List Int) : roundsOf (E47 N) N47_0 0 B47_0 K (n + 1) (fill f47_0_sh [.i x1, .l x2, .l x3]) = f47_0_st N (fun x1 x2 x3 => roundsOf (E47 N) N47_0 0 B47_0 K n (fill f47_0_sh [.i x1, .l x2, .l x3])) (fun y1 y2 y3 y4 => K .normal (fill f47_0_ex1 [.b y1, .i y2, .l y3, .l y4])) x1 x2 x3 := by kernel_rfl
theorem f47_0_lp_eq {R : Type} (N : Nat) (K : X → AS → Option R) : ∀ (n : Nat) (x1 : Int) (x2 x3 : List Int), roundsOf (E47 N) N47_0 0 B47_0 K n (fill f47_0_sh [.i x1, .l x2, .l x3]) = f47_0_lp N (fun y1 y2 y3 y4 => K .normal (fill f47_0_ex1 [.b y1, .i y2, .l y3, .l y4])) n x1 x2 x3
 | 0, _, _, _ => rfl
 | n + 1, x1, x2, x3 => by
  rw [f47_0_st_eq, f47_0_lp, show (fun x1 x2 x3 => roundsOf (E47 N) N47_0 0 B47_0 K n (fill f47_0_sh [.i x1, .l x2, .l x3])) = f47_0_lp N (fun y1 y2 y3 y4 => K .normal (fill f47_0_ex1 [.b y1, .i y2, .l y3, .l y4])) n from by funext x1 x2 x3; exact f47_0_lp_eq N K n x1 x2 x3]
theorem f47_0_ok (N : Nat) (hlp : LoopsOk Tryz.prog (E47 N).lp B47_0) (hΓ : CtxOk Tryz.prog (E47 N).Γ) : LoopOk Tryz.prog (mkL N47_0 f47_0_sh (f47_0_F N)) 0 B47_0 := by
 refine loopOk_of (E := E47 N) thOk hΓ mixed hlp ?_
 intro R ls K r h
 unfold f47_0_F at h
 split at h
 ·
  exact ⟨N, by rw [f47_0_lp_eq]; exact h⟩
 ·
  cases h
theorem lok47_0 (N : Nat) (hΓ : CtxOk Tryz.prog GP0) : LoopOk Tryz.prog (mkL N47_0 f47_0_sh (f47_0_F N)) 0 B47_0 := f47_0_ok N (loopsOk_of (l := []) (by kernel_rfl) trivial) hΓ
theorem f47_contract (N : Nat) (hΓ : CtxOk Tryz.prog GP0) : Contract Tryz.prog 47 { sig := S47, impl := fun _ ds k => call (E47 N) S47 20 B47 R47 ds k } :=
 call_contract (E := E47 N) thOk hΓ mixed ok47.look ok47.body ok47.n ok47.rv ok47.name rfl (by decide) (loopsOk_of (l := [(0, B47_0)]) (by kernel_rfl) (allOk_cons (L := mkL N47_0 f47_0_sh (f47_0_F N)) rfl (lok47_0 N hΓ) trivial))
theorem f47_raw_eq {R : Type} (N : Nat) (ids : List Int) (k : List DV → Option R) : call (E47 N) S47 20 B47 R47 [.lst (.one .i64) 1 ids] k = f47_raw N ids k := by kernel_rfl
def f48_0_sh : Shp := ⟨20, 1, [(0, .one (.fix (.own 0))), (3, .one (.fix (.own 1000003))), (4, .one (.int .i64))], [(1000003, .row (.one .i64) 1), (0, .view (.mix ck78) 33)]⟩
def f48_0_ex1 : Shp := ⟨20, 1, [(8, .one .bool), (0, .one (.fix (.own 0))), (3, .one (.fix (.own 1000003))), (4, .one (.int .i64))], [(1000003, .row (.one .i64) 1), (0, .view (.mix ck78) 33)]⟩
def f48_0_st {R : Type} (N : Nat) (self : Int → List Int → List Int → Option R) (k1 : Bool → Int → List Int → List Int → Option R) (x1 : Int) (x2 x3 : List Int) : Option R :=
 bif decide (x1 < nI (rowLen 33 x3)) then
 bif decide (0 ≤ x1) && decide (x1 < nI (rowLen 33 x3)) then
 let v0 : List Int := (zerosOf (1 * 1)).set 0 (x3.getD (x1.toNat * 33 + (0 + 0)) 0);
 bif ((2 * (rowLen 1 x2 + rowLen 1 v0) + 192) * 8).ble big48 && (rowLen 1 x2 + rowLen 1 v0).ble big48 then
 let v1 := IntKind.i64.wrap (x1 + 1);
 let v2 : List Int := x2 ++ v0;
 self v1 v2 x3
 else none
 else none
else k1 (decide (x1 < nI (rowLen 33 x3))) x1 x2 x3
def f48_0_lp {R : Type} (N : Nat) (k1 : Bool → Int → List Int → List Int → Option R) : Nat → Int → List Int → List Int → Option R
 | 0, _, _, _ => none
 | n + 1, x1, x2, x3 => f48_0_st N (f48_0_lp N k1 n) k1 x1 x2 x3
def f48_0_F (N : Nat) : (R : Type) → List Leaf → (X → AS → Option R) → Option R := fun _ ls K => match ls with
 | [.i x1, .l x2, .l x3] => f48_0_lp N (fun y1 y2 y3 y4 => K .normal (fill f48_0_ex1 [.b y1, .i y2, .l y3, .l y4])) N x1 x2 x3
 | _ => none
def f48_raw {R : Type} (N : Nat) (s : List Int) (k : List DV → Option R) : Option R :=
 f48_0_lp N (fun w0_1 w0_2 w0_3 w0_4 => k [.lst (.one .i64) 1 w0_3]) N 0 [] s
def E48 (N : Nat) : Env := { Θ := Th, Γ := [], K := K48, ν := N48, fuel := 0, lp := [(0, mkL N48_0 f48_0_sh (f48_0_F N))] }
theorem f48_0_st_eq {R : Type} (N : Nat) (K : X → AS → Option R) (n : Nat) (x1 : Int) (x2 x3 : List Int) : roundsOf (E48 N) N48_0 0 B48_0 K (n + 1) (fill f48_0_sh [.i x1, .l x2, .l x3]) = f48_0_st N (fun x1 x2 x3 => roundsOf (E48 N) N48_0 0 B48_0 K n (fill f48_0_sh [.i x1, .l x2, .l x3])) (fun y1 y2 y3 y4 => K .normal (fill f48_0_ex1 [.b y1, .i y2, .l y3, .l y4])) x1 x2 x3 := by kernel_rfl
theorem f48_0_lp_eq {R : Type} (N : Nat) (K : X → AS → Option R) : ∀ (n : Nat) (x1 : Int) (x2 x3 : List Int), roundsOf (E48 N) N48_0 0 B48_0 K n (fill f48_0_sh [.i x1, .l x2, .l x3]) = f48_0_lp N (fun y1 y2 y3 y4 => K .normal (fill f48_0_ex1 [.b y1, .i y2, .l y3, .l y4])) n x1 x2 x3
 | 0, _, _, _ => rfl
 | n + 1, x1, x2, x3 => by
  rw [f48_0_st_eq, f48_0_lp, show (fun x1 x2 x3 => roundsOf (E48 N) N48_0 0 B48_0 K n (fill f48_0_sh [.i x1, .l x2, .l x3])) = f48_0_lp N (fun y1 y2 y3 y4 => K .normal (fill f48_0_ex1 [.b y1, .i y2, .l y3, .l y4])) n from by funext x1 x2 x3; exact f48_0_lp_eq N K n x1 x2 x3]
theorem f48_0_ok (N : Nat) (hlp : LoopsOk Tryz.prog (E48 N).lp B48_0) (hΓ : CtxOk Tryz.prog (E48 N).Γ) : LoopOk Tryz.prog (mkL N48_0 f48_0_sh (f48_0_F N)) 0 B48_0 := by
 refine loopOk_of (E := E48 N) thOk hΓ mixed hlp ?_
 intro R ls K r h
 unfold f48_0_F at h
 split at h
 ·
  exact ⟨N, by rw [f48_0_lp_eq]; exact h⟩
 ·
  cases h
theorem lok48_0 (N : Nat) (hΓ : CtxOk Tryz.prog []) : LoopOk Tryz.prog (mkL N48_0 f48_0_sh (f48_0_F N)) 0 B48_0 := f48_0_ok N (loopsOk_of (l := []) (by kernel_rfl) trivial) hΓ
theorem f48_contract (N : Nat) (hΓ : CtxOk Tryz.prog []) : Contract Tryz.prog 48 { sig := S48, impl := fun _ ds k => call (E48 N) S48 20 B48 R48 ds k } :=
 call_contract (E := E48 N) thOk hΓ mixed ok48.look ok48.body ok48.n ok48.rv ok48.name rfl (by decide) (loopsOk_of (l := [(0, B48_0)]) (by kernel_rfl) (allOk_cons (L := mkL N48_0 f48_0_sh (f48_0_F N)) rfl (lok48_0 N hΓ) trivial))
theorem f48_raw_eq {R : Type} (N : Nat) (s : List Int) (k : List DV → Option R) : call (E48 N) S48 20 B48 R48 [.lst (.mix ck78) 33 s] k = f48_raw N s k := by kernel_rfl
def f49_0_sh : Shp := ⟨22, 1, [(0, .one (.fix (.own 0))), (3, .one (.fix (.own 1000003))), (4, .one (.int .i64))], [(1000003, .row (.one .u8) 32), (0, .view (.mix ck78) 33)]⟩
def f49_0_ex1 : Shp := ⟨22, 1, [(8, .one .bool), (0, .one (.fix (.own 0))), (3, .one (.fix (.own 1000003))), (4, .one (.int .i64))], [(1000003, .row (.one .u8) 32), (0, .view (.mix ck78) 33)]⟩
def f49_0_st {R : Type} (N : Nat) (self : Int → List Int → List Int → Option R) (k1 : Bool → Int → List Int → List Int → Option R) (x1 : Int) (x2 x3 : List Int) : Option R :=
 bif decide (x1 < nI (rowLen 33 x3)) then
 bif decide (0 ≤ x1) && decide (x1 < nI (rowLen 33 x3)) then
 bif okB (List.take 32 (List.drop (x1.toNat * 33 + (0 + 1)) x3)) && okB (List.replicate 32 0) then
 let v0 := splice (zerosOf (1 * 32)) (.at (0 * 32)) (sN (addN (vS (List.take 32 (List.drop (x1.toNat * 33 + (0 + 1)) x3))) (vS (List.replicate 32 0))));
 bif ((2 * (rowLen 32 x2 + rowLen 32 v0) + 192) * 32).ble big48 && (rowLen 32 x2 + rowLen 32 v0).ble big48 then
 let v1 := IntKind.i64.wrap (x1 + 1);
 let v2 : List Int := x2 ++ v0;
 self v1 v2 x3
 else none
 else none
 else none
else k1 (decide (x1 < nI (rowLen 33 x3))) x1 x2 x3
def f49_0_lp {R : Type} (N : Nat) (k1 : Bool → Int → List Int → List Int → Option R) : Nat → Int → List Int → List Int → Option R
 | 0, _, _, _ => none
 | n + 1, x1, x2, x3 => f49_0_st N (f49_0_lp N k1 n) k1 x1 x2 x3
def f49_0_F (N : Nat) : (R : Type) → List Leaf → (X → AS → Option R) → Option R := fun _ ls K => match ls with
 | [.i x1, .l x2, .l x3] => f49_0_lp N (fun y1 y2 y3 y4 => K .normal (fill f49_0_ex1 [.b y1, .i y2, .l y3, .l y4])) N x1 x2 x3
 | _ => none
def f49_raw {R : Type} (N : Nat) (s : List Int) (k : List DV → Option R) : Option R :=
 f49_0_lp N (fun w0_1 w0_2 w0_3 w0_4 => k [.lst (.one .u8) 32 w0_3]) N 0 [] s
def E49 (N : Nat) : Env := { Θ := Th, Γ := GRX, K := K49, ν := N49, fuel := 0, lp := [(0, mkL N49_0 f49_0_sh (f49_0_F N))] }
theorem f49_0_st_eq {R : Type} (N : Nat) (K : X → AS → Option R) (n : Nat) (x1 : Int) (x2 x3 : List Int) : roundsOf (E49 N) N49_0 0 B49_0 K (n + 1) (fill f49_0_sh [.i x1, .l x2, .l x3]) = f49_0_st N (fun x1 x2 x3 => roundsOf (E49 N) N49_0 0 B49_0 K n (fill f49_0_sh [.i x1, .l x2, .l x3])) (fun y1 y2 y3 y4 => K .normal (fill f49_0_ex1 [.b y1, .i y2, .l y3, .l y4])) x1 x2 x3 := by kernel_rfl
theorem f49_0_lp_eq {R : Type} (N : Nat) (K : X → AS → Option R) : ∀ (n : Nat) (x1 : Int) (x2 x3 : List Int), roundsOf (E49 N) N49_0 0 B49_0 K n (fill f49_0_sh [.i x1, .l x2, .l x3]) = f49_0_lp N (fun y1 y2 y3 y4 => K .normal (fill f49_0_ex1 [.b y1, .i y2, .l y3, .l y4])) n x1 x2 x3
 | 0, _, _, _ => rfl
 | n + 1, x1, x2, x3 => by
  rw [f49_0_st_eq, f49_0_lp, show (fun x1 x2 x3 => roundsOf (E49 N) N49_0 0 B49_0 K n (fill f49_0_sh [.i x1, .l x2, .l x3])) = f49_0_lp N (fun y1 y2 y3 y4 => K .normal (fill f49_0_ex1 [.b y1, .i y2, .l y3, .l y4])) n from by funext x1 x2 x3; exact f49_0_lp_eq N K n x1 x2 x3]
theorem f49_0_ok (N : Nat) (hlp : LoopsOk Tryz.prog (E49 N).lp B49_0) (hΓ : CtxOk Tryz.prog (E49 N).Γ) : LoopOk Tryz.prog (mkL N49_0 f49_0_sh (f49_0_F N)) 0 B49_0 := by
 refine loopOk_of (E := E49 N) thOk hΓ mixed hlp ?_
 intro R ls K r h
 unfold f49_0_F at h
 split at h
 ·
  exact ⟨N, by rw [f49_0_lp_eq]; exact h⟩
 ·
  cases h
theorem lok49_0 (N : Nat) (hΓ : CtxOk Tryz.prog GRX) : LoopOk Tryz.prog (mkL N49_0 f49_0_sh (f49_0_F N)) 0 B49_0 := f49_0_ok N (loopsOk_of (l := []) (by kernel_rfl) trivial) hΓ
theorem f49_contract (N : Nat) (hΓ : CtxOk Tryz.prog GRX) : Contract Tryz.prog 49 { sig := S49, impl := fun _ ds k => call (E49 N) S49 22 B49 R49 ds k } :=
 call_contract (E := E49 N) thOk hΓ mixed ok49.look ok49.body ok49.n ok49.rv ok49.name rfl (by decide) (loopsOk_of (l := [(0, B49_0)]) (by kernel_rfl) (allOk_cons (L := mkL N49_0 f49_0_sh (f49_0_F N)) rfl (lok49_0 N hΓ) trivial))
theorem f49_raw_eq {R : Type} (N : Nat) (s : List Int) (k : List DV → Option R) : call (E49 N) S49 22 B49 R49 [.lst (.mix ck78) 33 s] k = f49_raw N s k := by kernel_rfl
def f107_raw {R : Type} (N : Nat) (x : Int) (k : List DV → Option R) : Option R :=
 bif decide (x < 1) then k [.v (.one (.int .i64 7))]
else
 let v0 : Bool := bif false then true else decide (x > 255);
 bif v0 then k [.v (.one (.int .i64 7))] else k [.v (.one (.int .i64 0))]
def E107 (N : Nat) : Env := { Θ := Th, Γ := [], K := K107, ν := N107, fuel := 0, lp := [] }
theorem f107_contract (N : Nat) (hΓ : CtxOk Tryz.prog []) : Contract Tryz.prog 107 { sig := S107, impl := fun _ ds k => call (E107 N) S107 9 B107 R107 ds k } :=
 call_contract (E := E107 N) thOk hΓ mixed ok107.look ok107.body ok107.n ok107.rv ok107.name rfl (by decide) (loopsOk_of (l := []) (by kernel_rfl) trivial)
theorem f107_raw_eq {R : Type} (N : Nat) (x : Int) (k : List DV → Option R) : call (E107 N) S107 9 B107 R107 [.v (.one (.int .i64 x))] k = f107_raw N x k := by kernel_rfl
def f109_0_sh : Shp := ⟨50, 3, [(0, .one (.fix (.own 0))), (1, .one (.int .i64)), (5, .one (.fix (.ptr 5 0 .z 32))), (6, .one (.fix (.ptr 6 0 .z 32))), (7, .one (.fix (.ptr 7 0 .z 32))), (8, .one (.fix (.ptr 8 0 .z 32))), (9, .one (.int .i64))], [(0, .view (.one .u8) 32), (5, .obj [.ints .u8 32]), (6, .obj [.ints .u8 32]), (7, .obj [.ints .u8 32]), (8, .obj [.ints .u8 32])]⟩
def f109_0_ex1 : Shp := ⟨50, 3, [(17, .one .bool), (0, .one (.fix (.own 0))), (1, .one (.int .i64)), (5, .one (.fix (.ptr 5 0 .z 32))), (6, .one (.fix (.ptr 6 0 .z 32))), (7, .one (.fix (.ptr 7 0 .z 32))), (8, .one (.fix (.ptr 8 0 .z 32))), (9, .one (.int .i64))], [(0, .view (.one .u8) 32), (5, .obj [.ints .u8 32]), (6, .obj [.ints .u8 32]), (7, .obj [.ints .u8 32]), (8, .obj [.ints .u8 32])]⟩
def f109_0_st {R : Type} (N : Nat) (self : Int → Int → List Int → List Int → List Int → List Int → List Int → Option R) (k1 : Bool → Int → Int → List Int → List Int → List Int → List Int → List Int → Option R) (x1 x2 : Int) (x3 x4 : List Int) (x5 x6 x7 : List Int) : Option R :=
 bif decide (x2 < nI (rowLen 32 x3)) then
 bif x2 != x1 then
 bif decide (0 ≤ x2) && decide (x2 < nI (rowLen 32 x3)) then
 bif okB x4 && okB (List.take 32 (List.drop (mulE x2.toNat 32) x3)) then
 bif okB x6 && okB (sN (difN (vS x4) (vS (List.take 32 (List.drop (mulE x2.toNat 32) x3))))) then
 bif decide (0 ≤ x1) && decide (x1 < nI (rowLen 32 x3)) then
 bif decide (0 ≤ x2) && decide (x2 < nI (rowLen 32 x3)) then
 bif okB (List.take 32 (List.drop (mulE x1.toNat 32) x3)) && okB (List.take 32 (List.drop (mulE x2.toNat 32) x3)) then
 bif okB x7 && okB (sN (difN (vS (List.take 32 (List.drop (mulE x1.toNat 32) x3))) (vS (List.take 32 (List.drop (mulE x2.toNat 32) x3))))) then
 let v0 := IntKind.i64.wrap (x2 + 1);
 self x1 v0 x3 x4 x5 (sN (mulN (vS x6) (vS (sN (difN (vS x4) (vS (List.take 32 (List.drop (mulE x2.toNat 32) x3)))))))) (sN (mulN (vS x7) (vS (sN (difN (vS (List.take 32 (List.drop (mulE x1.toNat 32) x3))) (vS (List.take 32 (List.drop (mulE x2.toNat 32) x3))))))))
 else none
 else none
 else none
 else none
 else none
 else none
 else none
 else
 let v1 := IntKind.i64.wrap (x2 + 1);
 self x1 v1 x3 x4 x5 x6 x7
else k1 (decide (x2 < nI (rowLen 32 x3))) x1 x2 x3 x4 x5 x6 x7
def f109_0_lp {R : Type} (N : Nat) (k1 : Bool → Int → Int → List Int → List Int → List Int → List Int → List Int → Option R) : Nat → Int → Int → List Int → List Int → List Int → List Int → List Int → Option R
 | 0, _, _, _, _, _, _, _ => none
 | n + 1, x1, x2, x3, x4, x5, x6, x7 => f109_0_st N (f109_0_lp N k1 n) k1 x1 x2 x3 x4 x5 x6 x7
def f109_0_F (N : Nat) : (R : Type) → List Leaf → (X → AS → Option R) → Option R := fun _ ls K => match ls with
 | [.i x1, .i x2, .l x3, .l x4, .l x5, .l x6, .l x7] => f109_0_lp N (fun y1 y2 y3 y4 y5 y6 y7 y8 => K .normal (fill f109_0_ex1 [.b y1, .i y2, .i y3, .l y4, .l y5, .l y6, .l y7, .l y8])) N x1 x2 x3 x4 x5 x6 x7
 | _ => none
def f109_raw {R : Type} (N : Nat) (xs : List Int) (i : Int) (x : List Int) (k : List DV → Option R) : Option R :=
 f109_0_lp N (fun w0_1 w0_2 w0_3 w0_4 w0_5 w0_6 w0_7 w0_8 => bif okB w0_8 then bif decide (vS w0_8 = 0) then bif okB w0_7 && okB (List.replicate 32 0) then k [.v (.one (.ints .u8 32 (sN (mulN (vS w0_7) (vS (List.replicate 32 0))))))] else none else bif okB w0_7 && okB (sN (invN (vS w0_8))) then k [.v (.one (.ints .u8 32 (sN (mulN (vS w0_7) (vS (sN (invN (vS w0_8))))))))] else none else none) N i 0 xs x (List.replicate 32 0) (sN (Int.toNat 1)) (sN (Int.toNat 1))
def E109 (N : Nat) : Env := { Θ := Th, Γ := GRX, K := K109, ν := N109, fuel := 0, lp := [(0, mkL N109_0 f109_0_sh (f109_0_F N))] }
theorem f109_0_st_eq {R : Type} (N : Nat) (K : X → AS → Option R) (n : Nat) (x1 x2 : Int) (x3 x4 : List Int) (x5 x6 x7 : List Int) : roundsOf (E109 N) N109_0 0 B109_0 K (n + 1) (fill f109_0_sh [.i x1, .i x2, .l x3, .l x4, .l x5, .l x6, .l x7]) = f109_0_st N (fun x1 x2 x3 x4 x5 x6 x7 => roundsOf (E109 N) N109_0 0 B109_0 K n (fill f109_0_sh [.i x1, .i x2, .l x3, .l x4, .l x5, .l x6, .l x7])) (fun y1 y2 y3 y4 y5 y6 y7 y8 => K .normal (fill f109_0_ex1 [.b y1, .i y2, .i y3, .l y4, .l y5, .l y6, .l y7, .l y8])) x1 x2 x3 x4 x5 x6 x7 := by kernel_rfl
theorem f109_0_lp_eq {R : Type} (N : Nat) (K : X → AS → Option R) : ∀ (n : Nat) (x1 x2 : Int) (x3 x4 : List Int) (x5 x6 x7 : List Int), roundsOf (E109 N) N109_0 0 B109_0 K n (fill f109_0_sh [.i x1, .i x2, .l x3, .l x4, .l x5, .l x6, .l x7]) = f109_0_lp N (fun y1 y2 y3 y4 y5 y6 y7 y8 => K .normal (fill f109_0_ex1 [.b y1, .i y2, .i y3, .l y4, .l y5, .l y6, .l y7, .l y8])) n x1 x2 x3 x4 x5 x6 x7
 | 0, _, _, _, _, _, _, _ => rfl
 | n + 1, x1, x2, x3, x4, x5, x6, x7 => by
  rw [f109_0_st_eq, f109_0_lp, show (fun x1 x2 x3 x4 x5 x6 x7 => roundsOf (E109 N) N109_0 0 B109_0 K n (fill f109_0_sh [.i x1, .i x2, .l x3, .l x4, .l x5, .l x6, .l x7])) = f109_0_lp N (fun y1 y2 y3 y4 y5 y6 y7 y8 => K .normal (fill f109_0_ex1 [.b y1, .i y2, .i y3, .l y4, .l y5, .l y6, .l y7, .l y8])) n from by funext x1 x2 x3 x4 x5 x6 x7; exact f109_0_lp_eq N K n x1 x2 x3 x4 x5 x6 x7]
theorem f109_0_ok (N : Nat) (hlp : LoopsOk Tryz.prog (E109 N).lp B109_0) (hΓ : CtxOk Tryz.prog (E109 N).Γ) : LoopOk Tryz.prog (mkL N109_0 f109_0_sh (f109_0_F N)) 0 B109_0 := by
 refine loopOk_of (E := E109 N) thOk hΓ mixed hlp ?_
 intro R ls K r h
 unfold f109_0_F at h
 split at h
 ·
  exact ⟨N, by rw [f109_0_lp_eq]; exact h⟩
 ·
  cases h
theorem lok109_0 (N : Nat) (hΓ : CtxOk Tryz.prog GRX) : LoopOk Tryz.prog (mkL N109_0 f109_0_sh (f109_0_F N)) 0 B109_0 := f109_0_ok N (loopsOk_of (l := []) (by kernel_rfl) trivial) hΓ
theorem f109_contract (N : Nat) (hΓ : CtxOk Tryz.prog GRX) : Contract Tryz.prog 109 { sig := S109, impl := fun _ ds k => call (E109 N) S109 50 B109 R109 ds k } :=
 call_contract (E := E109 N) thOk hΓ mixed ok109.look ok109.body ok109.n ok109.rv ok109.name rfl (by decide) (loopsOk_of (l := [(0, B109_0)]) (by kernel_rfl) (allOk_cons (L := mkL N109_0 f109_0_sh (f109_0_F N)) rfl (lok109_0 N hΓ) trivial))
theorem f109_raw_eq {R : Type} (N : Nat) (xs : List Int) (i : Int) (x : List Int) (k : List DV → Option R) : call (E109 N) S109 50 B109 R109 [.lst (.one .u8) 32 xs, .v (.one (.int .i64 i)), .v (.one (.ints .u8 32 x))] k = f109_raw N xs i x k := by kernel_rfl
theorem f24_loop {R : Type} {N : Nat} (k1 : Bool → Bool → Bool → Int → List Int → List Int → Option R) (k2 : Bool → Int → List Int → List Int → Option R) {a : List Int} {n : Nat} (hn : a.length / 33 = n) (hb : n ≤ 1073741823) :
  ∀ j i : Nat, i + j = n → ∀ fuel, j < fuel → f24_0_lp N k1 k2 fuel (i : Int) a a = k2 false (n : Int) a a := by
 have hr : nI (rowLen 33 a) = (n : Int) := by show ((a.length / 33 : Nat) : Int) = _; rw [hn]
 intro j
 induction j with
 | zero =>
  intro i h fuel hf
  obtain ⟨f, rfl⟩ : ∃ f, fuel = f + 1 := ⟨fuel - 1, by omega⟩
  show f24_0_st N (f24_0_lp N _ _ f) _ _ _ _ _ = _
  unfold f24_0_st
  rw [hr, ltF (by omega), cond_false, show i = n by omega]
 | succ j ih =>
  intro i h fuel hf
  obtain ⟨f, rfl⟩ : ∃ f, fuel = f + 1 := ⟨fuel - 1, by omega⟩
  show f24_0_st N (f24_0_lp N _ _ f) _ _ _ _ _ = _
  unfold f24_0_st
  rw [hr, ltT (show i < n by omega), ge0, wAdd (by omega)]
  simp only [Bool.and_self, cond_true, decide_true, beq_self_eq_true, Bool.not_true, cond_false]
  exact ih (i + 1) (by omega) f (by omega)
def I24 : (R : Type) → List DV → (List DV → Option R) → Option R := fun _ ds k => match ds with
 | [.lst (.mix c) 33 a, .lst (.mix c') 33 b] => match cksEq c ck78 && cksEq c' ck78 with
  | true => bif decide (a = b) && Nat.ble a.length 1073741824 then k [.v (.one (.bool true))] else none
  | false => none
 | _ => none
theorem c24 : Contract Tryz.prog 24 { sig := S24, impl := I24 } := by
 refine Contract.refine fun R ds k r h => ?_
 unfold I24 at h
 split at h
 ·
  rename_i c a c' b
  refine ⟨_, f24_contract (a.length / 33 + 1) ctxOk_nil, ?_⟩
  split at h
  ·
   rename_i hl
   rw [Bool.and_eq_true] at hl
   have h1 := cksEq_iff.1 hl.1
   have h2 := cksEq_iff.1 hl.2
   subst h1; subst h2
   cases hc : decide (a = b) && Nat.ble a.length 1073741824 with
   | false => rw [hc] at h; cases h
   | true =>
    rw [hc, cond_true] at h
    rw [Bool.and_eq_true] at hc
    have e := of_decide_eq_true hc.1
    subst e
    have hb := Nat.le_of_ble_eq_true hc.2
    show call (E24 (a.length / 33 + 1)) S24 26 B24 R24 [DV.lst (RK.mix ck78) 33 a, DV.lst (RK.mix ck78) 33 a] k = some r
    rw [f24_raw_eq]
    unfold f24_raw
    rw [bne_self_eq_false, cond_false]
    exact (f24_loop (N := a.length / 33 + 1) _ _ rfl (by omega) (a.length / 33) 0 (by omega) (a.length / 33 + 1) (by omega)).trans h
  ·
   cases h
 ·
  exact (Option.some_ne_none _ h.symm).elim
theorem c107 : Contract Tryz.prog 107 { sig := S107, impl := I107 } := by
 refine Contract.refine fun R ds k r h => ⟨_, f107_contract 0 ctxOk_nil, ?_⟩
 unfold I107 at h
 split at h
 ·
  rename_i t
  rw [f107_raw_eq]
  unfold f107_raw
  unfold thrE at h
  cases h1 : decide (t < 1) with
  | true => rw [h1] at h; exact h
  | false =>
   rw [h1] at h
   cases h2 : decide (t > 255) with
   | true => rw [h2] at h; exact h
   | false => rw [h2] at h; exact h
 ·
  cases h
theorem f47_loop {R : Type} {N : Nat} (k1 : Bool → Int → List Int → List Int → Option R) {ids : List Int} {n : Nat} (hn : ids.length = n) (hb : n ≤ 33554432) :
  ∀ j i : Nat, i + j = n → ∀ fuel, j < fuel → f47_0_lp N k1 fuel (i : Int) (arrN (plF ids) i) ids = k1 false (n : Int) (arrN (plF ids) n) ids := by
 intro j
 induction j with
 | zero =>
  intro i h fuel hf
  obtain ⟨f, rfl⟩ : ∃ f, fuel = f + 1 := ⟨fuel - 1, by omega⟩
  show f47_0_st N (f47_0_lp N _ f) _ _ _ _ = _
  unfold f47_0_st
  rw [rows1, hn, ltF (by omega), cond_false, show i = n by omega]
 | succ j ih =>
  intro i h fuel hf
  obtain ⟨f, rfl⟩ : ∃ f, fuel = f + 1 := ⟨fuel - 1, by omega⟩
  show f47_0_st N (f47_0_lp N _ f) _ _ _ _ = _
  unfold f47_0_st
  have r1 : rowLen 32 (arrN (plF ids) i) = i := arr_div _ i
  have r2 : ∀ v, rowLen 32 (sN v) = 1 := fun v => by show (sN v).length / 32 = 1; rw [sN_len]
  have hle : (Nat.ble ((2 * (i + 1) + 192) * 32) big48 && Nat.ble (i + 1) big48) = true := by
   rw [Bool.and_eq_true, Nat.ble_eq, Nat.ble_eq]; unfold big48; omega
  dsimp only
  rw [rows1, hn, ge0, ltT (show i < n by omega), show mulE (Int.toNat (i : Int)) 1 = i from rfl, one_row (sN_len _), r1, r2, hle, wAdd (by omega)]
  simp only [Bool.and_self, cond_true]
  exact ih (i + 1) (by omega) f (by omega)
theorem c47 : Contract Tryz.prog 47 { sig := S47, impl := I77 } := by
 refine Contract.refine fun R ds k r h => ?_
 unfold I77 at h
 split at h
 ·
  rename_i ids
  refine ⟨_, f47_contract (ids.length + 1) GP0_ok, ?_⟩
  cases hc : Nat.ble ids.length 33554432 with
  | false => rw [hc] at h; cases h
  | true =>
   rw [hc, cond_true] at h
   rw [f47_raw_eq]
   unfold f47_raw
   exact (f47_loop (N := ids.length + 1) _ rfl (Nat.le_of_ble_eq_true hc) ids.length 0 (by omega) (ids.length + 1) (by omega)).trans h
 ·
  exact (Option.some_ne_none _ h.symm).elim
theorem f48_loopZ {R : Type} {N : Nat} (k1 : Bool → Int → List Int → List Int → Option R) {s : List Int} {n : Nat} (hn : s.length / 33 = n) (hb : n ≤ 33554432) :
  ∀ j i : Nat, i + j = n → ∀ fuel, j < fuel → f48_0_lp N k1 fuel (i : Int) (idsS s i) s = k1 false (n : Int) (idsS s n) s := by
 have hr : nI (rowLen 33 s) = (n : Int) := by show ((s.length / 33 : Nat) : Int) = _; rw [hn]
 intro j
 induction j with
 | zero =>
  intro i h fuel hf
  obtain ⟨f, rfl⟩ : ∃ f, fuel = f + 1 := ⟨fuel - 1, by omega⟩
  show f48_0_st N (f48_0_lp N _ f) _ _ _ _ = _
  unfold f48_0_st
  rw [hr, ltF (by omega), cond_false, show i = n by omega]
 | succ j ih =>
  intro i h fuel hf
  obtain ⟨f, rfl⟩ : ∃ f, fuel = f + 1 := ⟨fuel - 1, by omega⟩
  show f48_0_st N (f48_0_lp N _ f) _ _ _ _ = _
  unfold f48_0_st
  have e1 : (zerosOf (1 * 1)).set 0 (s.getD (Int.toNat (i : Int) * 33 + (0 + 0)) 0) = [shId s i] := rfl
  have e2 : rowLen 1 (idsS s i) = i := idsS_len s i
  have e3 : rowLen 1 [shId s i] = 1 := rfl
  have hle : (Nat.ble ((2 * (i + 1) + 192) * 8) big48 && Nat.ble (i + 1) big48) = true := by
   rw [Bool.and_eq_true, Nat.ble_eq, Nat.ble_eq]; unfold big48; omega
  rw [hr, ltT (show i < n by omega), ge0, e1]
  dsimp only
  rw [e2, e3, hle, wAdd (by omega), ← idsS_succ]
  simp only [Bool.and_self, cond_true]
  exact ih (i + 1) (by omega) f (by omega)
def I48 : (R : Type) → List DV → (List DV → Option R) → Option R := fun _ ds k => match ds with
 | [.lst (.mix c) 33 s] => match cksEq c ck78 with
  | true => bif okS s then k [.lst (.one .i64) 1 (ids33 s)] else none
  | false => none
 | _ => none
theorem c48 : Contract Tryz.prog 48 { sig := S48, impl := I48 } := by
 refine Contract.refine fun R ds k r h => ?_
 unfold I48 at h
 split at h
 ·
  rename_i c s
  refine ⟨_, f48_contract (s.length / 33 + 1) ctxOk_nil, ?_⟩
  split at h
  ·
   rename_i hl
   have h1 := cksEq_iff.1 hl
   subst h1
   cases hc : okS s with
   | false => rw [hc] at h; cases h
   | true =>
    rw [hc, cond_true] at h
    obtain ⟨b1, b2, b3⟩ := okS_n hc
    show call (E48 (s.length / 33 + 1)) S48 20 B48 R48 [DV.lst (RK.mix ck78) 33 s] k = some r
    rw [f48_raw_eq]
    exact (f48_loopZ (N := s.length / 33 + 1) _ rfl (by omega) (s.length / 33) 0 (by omega) (s.length / 33 + 1) (by omega)).trans h
  ·
   cases h
 ·
  exact (Option.some_ne_none _ h.symm).elim
theorem f49_loopZ {R : Type} {N : Nat} (k1 : Bool → Int → List Int → List Int → Option R) {s : List Int} {n : Nat} (hs : okS s = true) (hn : s.length / 33 = n) (hb : n ≤ 33554432) :
  ∀ j i : Nat, i + j = n → ∀ fuel, j < fuel → f49_0_lp N k1 fuel (i : Int) (arrN (fun i => vS (shV s i)) i) s = k1 false (n : Int) (arrN (fun i => vS (shV s i)) n) s := by
 have hr : nI (rowLen 33 s) = (n : Int) := by show ((s.length / 33 : Nat) : Int) = _; rw [hn]
 intro j
 induction j with
 | zero =>
  intro i h fuel hf
  obtain ⟨f, rfl⟩ : ∃ f, fuel = f + 1 := ⟨fuel - 1, by omega⟩
  show f49_0_st N (f49_0_lp N _ f) _ _ _ _ = _
  unfold f49_0_st
  rw [hr, ltF (by omega), cond_false, show i = n by omega]
 | succ j ih =>
  intro i h fuel hf
  obtain ⟨f, rfl⟩ : ∃ f, fuel = f + 1 := ⟨fuel - 1, by omega⟩
  show f49_0_st N (f49_0_lp N _ f) _ _ _ _ = _
  unfold f49_0_st
  have e1 : List.take 32 (List.drop (Int.toNat (i : Int) * 33 + (0 + 1)) s) = shV s i := rfl
  have e4 : addN (vS (shV s i)) 0 = vS (shV s i) := by
   apply q_inj (addN_lt _ _) (vS_lt _)
   rw [q_add, q_zero]; grind
  have r1 : rowLen 32 (arrN (fun i => vS (shV s i)) i) = i := arr_div _ i
  have r2 : ∀ v, rowLen 32 (sN v) = 1 := fun v => by show (sN v).length / 32 = 1; rw [sN_len]
  have hle : (Nat.ble ((2 * (i + 1) + 192) * 32) big48 && Nat.ble (i + 1) big48) = true := by
   rw [Bool.and_eq_true, Nat.ble_eq, Nat.ble_eq]; unfold big48; omega
  dsimp only
  rw [hr, ge0, ltT (show i < n by omega), e1, (okS_n hs).2.2 i (by omega), okB_z, vS_z, e4, one_row (sN_len _), r1, r2, hle, wAdd (by omega)]
  simp only [Bool.and_self, cond_true]
  exact ih (i + 1) (by omega) f (by omega)
def I49 : (R : Type) → List DV → (List DV → Option R) → Option R := fun _ ds k => match ds with
 | [.lst (.mix c) 33 s] => match cksEq c ck78 with
  | true => bif okS s then k [.lst (.one .u8) 32 (arrN (fun i => vS (shV s i)) (s.length / 33))] else none
  | false => none
 | _ => none
theorem c49 : Contract Tryz.prog 49 { sig := S49, impl := I49 } := by
 refine Contract.refine fun R ds k r h => ?_
 unfold I49 at h
 split at h
 ·
  rename_i c s
  refine ⟨_, f49_contract (s.length / 33 + 1) GRX_ok, ?_⟩
  split at h
  ·
   rename_i hl
   have h1 := cksEq_iff.1 hl
   subst h1
   cases hc : okS s with
   | false => rw [hc] at h; cases h
   | true =>
    rw [hc, cond_true] at h
    obtain ⟨b1, b2, b3⟩ := okS_n hc
    show call (E49 (s.length / 33 + 1)) S49 22 B49 R49 [DV.lst (RK.mix ck78) 33 s] k = some r
    rw [f49_raw_eq]
    exact (f49_loopZ (N := s.length / 33 + 1) _ hc rfl (by omega) (s.length / 33) 0 (by omega) (s.length / 33 + 1) (by omega)).trans h
  ·
   cases h
 ·
  exact (Option.some_ne_none _ h.symm).elim
theorem f109_loop {R : Type} {N : Nat} (k1 : Bool → Int → Int → List Int → List Int → List Int → List Int → List Int → Option R) {xs x z : List Int} {n i : Nat} (hx : okF xs = true) (ho : okB x = true) (hn : xs.length / 32 = n) (hi : i < n) (hb : n ≤ 33554432) :
  ∀ j k : Nat, k + j = n → ∀ fuel, j < fuel → ∀ a b, a < ell → b < ell →
   f109_0_lp N k1 fuel (i : Int) (k : Int) xs x z (sN a) (sN b) = k1 false (i : Int) (n : Int) xs x z (sN (pxN (numF xs) i (vS x) j k a)) (sN (pxN (numF xs) i (numF xs i) j k b)) := by
 intro j
 induction j with
 | zero =>
  intro k h fuel hf a b ha hb'
  obtain ⟨f, rfl⟩ : ∃ f, fuel = f + 1 := ⟨fuel - 1, by omega⟩
  show f109_0_st N (f109_0_lp N _ f) _ _ _ _ _ _ _ _ = _
  unfold f109_0_st
  rw [rows32 hx, hn, ltF (by omega), cond_false, show k = n by omega]
  rfl
 | succ j ih =>
  intro k h fuel hf a b ha hb'
  obtain ⟨f, rfl⟩ : ∃ f, fuel = f + 1 := ⟨fuel - 1, by omega⟩
  show f109_0_st N (f109_0_lp N _ f) _ _ _ _ _ _ _ _ = _
  unfold f109_0_st
  have e1 : List.take 32 (List.drop (k * 32) xs) = elF xs k := rfl
  have e2 : List.take 32 (List.drop (i * 32) xs) = elF xs i := rfl
  rw [rows32 hx, hn, ltT (show k < n by omega), cond_true, bne_nat, wAdd (by omega)]
  by_cases hk : k = i
  ·
   rw [decide_eq_true hk, Bool.not_true, cond_false]
   have e3 : ∀ v c, pxN (numF xs) i v (j + 1) k c = pxN (numF xs) i v j (k + 1) c := fun v c => by
    show pxN (numF xs) i v j (k + 1) (if k = i then c else _) = _
    rw [if_pos hk]
   rw [e3, e3]
   exact ih (k + 1) (by omega) f (by omega) a b ha hb'
  ·
   rw [decide_eq_false hk, Bool.not_false, cond_true]
   have e3 : ∀ v c, pxN (numF xs) i v (j + 1) k c = pxN (numF xs) i v j (k + 1) (mulN c (difN v (numF xs k))) := fun v c => by
    show pxN (numF xs) i v j (k + 1) (if k = i then c else _) = _
    rw [if_neg hk]
   dsimp only
   rw [ge0, ge0, ltT (show i < n by omega), toN, toN, e1, e2, okF_el hx (show k < xs.length / 32 by omega), okF_el hx (show i < xs.length / 32 by omega), ho, okB_sN, okB_sN, okB_sN, okB_sN, vS_sN ha, vS_sN hb', vS_sN (difN_lt _ _), vS_sN (difN_lt _ _)]
   simp only [Bool.and_self, cond_true]
   rw [e3, e3]
   exact ih (k + 1) (by omega) f (by omega) _ _ (mulN_lt _ _) (mulN_lt _ _)
def I109 : (R : Type) → List DV → (List DV → Option R) → Option R := fun _ ds k => match ds with
 | [.lst (.one .u8) 32 xs, .v (.one (.int .i64 i)), .v (.one (.ints .u8 32 x))] =>
  bif okF xs && okB x && (!sameX xs) && (decide (0 ≤ i) && decide (i < ((xs.length / 32 : Nat) : Int))) then k [.v (.one (.ints .u8 32 (sN (basG (numF xs) (vS x) (xs.length / 32) i.toNat))))] else none
 | _ => none
theorem c109 : Contract Tryz.prog 109 { sig := S109, impl := I109 } := by
 refine Contract.refine fun R ds k r h => ?_
 unfold I109 at h
 split at h
 ·
  rename_i xs i x
  refine ⟨_, f109_contract (xs.length / 32 + 1) GRX_ok, ?_⟩
  cases hc : okF xs && okB x && (!sameX xs) && (decide (0 ≤ i) && decide (i < ((xs.length / 32 : Nat) : Int))) with
  | false => rw [hc] at h; cases h
  | true =>
   rw [hc, cond_true] at h
   simp only [Bool.and_eq_true, decide_eq_true_eq, Bool.not_eq_true'] at hc
   obtain ⟨⟨⟨h1, h2⟩, h3⟩, h4, h5⟩ := hc
   obtain ⟨b1, b2⟩ := okF_n h1
   obtain ⟨m, rfl⟩ : ∃ m : Nat, i = (m : Int) := ⟨i.toNat, by omega⟩
   rw [Int.toNat_natCast] at h
   rw [f109_raw_eq]
   unfold f109_raw
   refine (f109_loop (N := xs.length / 32 + 1) _ h1 h2 rfl (by omega) (by omega) (xs.length / 32) 0 (by omega) (xs.length / 32 + 1) (by omega) 1 1 one_lt_ell one_lt_ell).trans ?_
   have hne : pxN (numF xs) m (numF xs m) (xs.length / 32) 0 1 ≠ 0 := pxN_ne (numF_lt xs) (by omega) (same_ne h3) _ _ _ (by omega) one_lt_ell (by omega)
   have l1 := pxN_lt (X := numF xs) (i := m) (v := numF xs m) (xs.length / 32) 0 1 one_lt_ell
   have l2 := pxN_lt (X := numF xs) (i := m) (v := vS x) (xs.length / 32) 0 1 one_lt_ell
   rw [okB_sN, okB_sN, okB_sN, vS_sN l1, vS_sN l2, vS_sN (invN_lt _), decide_eq_false hne]
   simp only [Bool.and_self, cond_true, cond_false]
   exact h
 ·
  exact (Option.some_ne_none _ h.symm).elim
def GQ2 : Ctx := (109, { sig := S109, impl := I109 }) :: GRX
theorem GQ2_ok : CtxOk Tryz.prog GQ2 := ctxOk_cons ok109 rfl c109 GRX_ok
set_option linter.unusedVariables false
set_option linter.unusedVariables false
def f104_0_sh : Shp := ⟨26, 3, [(0, .one (.fix (.own 0))), (1, .one (.fix (.own 1))), (5, .one (.fix (.ptr 5 0 .z 32))), (6, .one (.fix (.ptr 6 0 .z 32))), (7, .one (.fix (.ptr 7 0 .z 32))), (8, .one (.int .i64))], [(0, .view (.one .u8) 32), (1, .view (.one .u8) 32), (5, .obj [.ints .u8 32]), (6, .obj [.ints .u8 32]), (7, .obj [.ints .u8 32])]⟩
def f104_0_ex1 : Shp := ⟨26, 3, [(12, .one .bool), (0, .one (.fix (.own 0))), (1, .one (.fix (.own 1))), (5, .one (.fix (.ptr 5 0 .z 32))), (6, .one (.fix (.ptr 6 0 .z 32))), (7, .one (.fix (.ptr 7 0 .z 32))), (8, .one (.int .i64))], [(0, .view (.one .u8) 32), (1, .view (.one .u8) 32), (5, .obj [.ints .u8 32]), (6, .obj [.ints .u8 32]), (7, .obj [.ints .u8 32])]⟩
def f104_0_st {R : Type} (N : Nat) (self : Int → List Int → List Int → List Int → List Int → List Int → Option R) (k1 : Bool → Int → List Int → List Int → List Int → List Int → List Int → Option R) (x1 : Int) (x2 x3 : List Int) (x4 x5 x6 : List Int) : Option R :=
 bif decide (x1 < nI (rowLen 32 x2)) then
 bif okF x2 && okB x4 && !sameX x2 && (decide (0 ≤ x1) && decide (x1 < nI (x2.length / 32))) then
 bif decide (0 ≤ x1) && decide (x1 < nI (rowLen 32 x3)) then
 bif okB (sN (basG (numF x2) (vS x4) (x2.length / 32) x1.toNat)) && okB (List.take 32 (List.drop (mulE x1.toNat 32) x3)) && okB x6 then
 let v0 := IntKind.i64.wrap (x1 + 1);
 self v0 x2 x3 x4 x5 (sN (addN (mulN (vS (sN (basG (numF x2) (vS x4) (x2.length / 32) x1.toNat))) (vS (List.take 32 (List.drop (mulE x1.toNat 32) x3)))) (vS x6)))
 else none
 else none
 else none
else k1 (decide (x1 < nI (rowLen 32 x2))) x1 x2 x3 x4 x5 x6
def f104_0_lp {R : Type} (N : Nat) (k1 : Bool → Int → List Int → List Int → List Int → List Int → List Int → Option R) : Nat → Int → List Int → List Int → List Int → List Int → List Int → Option R
 | 0, _, _, _, _, _, _ => none
 | n + 1, x1, x2, x3, x4, x5, x6 => f104_0_st N (f104_0_lp N k1 n) k1 x1 x2 x3 x4 x5 x6
def f104_0_F (N : Nat) : (R : Type) → List Leaf → (X → AS → Option R) → Option R := fun _ ls K => match ls with
 | [.i x1, .l x2, .l x3, .l x4, .l x5, .l x6] => f104_0_lp N (fun y1 y2 y3 y4 y5 y6 y7 => K .normal (fill f104_0_ex1 [.b y1, .i y2, .l y3, .l y4, .l y5, .l y6, .l y7])) N x1 x2 x3 x4 x5 x6
 | _ => none
def f104_raw {R : Type} (N : Nat) (a b x : List Int) (k : List DV → Option R) : Option R :=
 f104_0_lp N (fun w0_1 w0_2 w0_3 w0_4 w0_5 w0_6 w0_7 => k [.v (.one (.ints .u8 32 w0_7))]) N 0 a b x (List.replicate 32 0) (List.replicate 32 0)
def E104 (N : Nat) : Env := { Θ := Th, Γ := GQ2, K := K104, ν := N104, fuel := 0, lp := [(0, mkL N104_0 f104_0_sh (f104_0_F N))] }
theorem f104_0_st_eq {R : Type} (N : Nat) (K : X → AS → Option R) (n : Nat) (x1 : Int) (x2 x3 : List Int) (x4 x5 x6 : List Int) : roundsOf (E104 N) N104_0 0 B104_0 K (n + 1) (fill f104_0_sh [.i x1, .l x2, .l x3, .l x4, .l x5, .l x6]) = f104_0_st N (fun x1 x2 x3 x4 x5 x6 => roundsOf (E104 N) N104_0 0 B104_0 K n (fill f104_0_sh [.i x1, .l x2, .l x3, .l x4, .l x5, .l x6])) (fun y1 y2 y3 y4 y5 y6 y7 => K .normal (fill f104_0_ex1 [.b y1, .i y2, .l y3, .l y4, .l y5, .l y6, .l y7])) x1 x2 x3 x4 x5 x6 := by kernel_rfl
theorem f104_0_lp_eq {R : Type} (N : Nat) (K : X → AS → Option R) : ∀ (n : Nat) (x1 : Int) (x2 x3 : List Int) (x4 x5 x6 : List Int), roundsOf (E104 N) N104_0 0 B104_0 K n (fill f104_0_sh [.i x1, .l x2, .l x3, .l x4, .l x5, .l x6]) = f104_0_lp N (fun y1 y2 y3 y4 y5 y6 y7 => K .normal (fill f104_0_ex1 [.b y1, .i y2, .l y3, .l y4, .l y5, .l y6, .l y7])) n x1 x2 x3 x4 x5 x6
 | 0, _, _, _, _, _, _ => rfl
 | n + 1, x1, x2, x3, x4, x5, x6 => by
  rw [f104_0_st_eq, f104_0_lp, show (fun x1 x2 x3 x4 x5 x6 => roundsOf (E104 N) N104_0 0 B104_0 K n (fill f104_0_sh [.i x1, .l x2, .l x3, .l x4, .l x5, .l x6])) = f104_0_lp N (fun y1 y2 y3 y4 y5 y6 y7 => K .normal (fill f104_0_ex1 [.b y1, .i y2, .l y3, .l y4, .l y5, .l y6, .l y7])) n from by funext x1 x2 x3 x4 x5 x6; exact f104_0_lp_eq N K n x1 x2 x3 x4 x5 x6]
theorem f104_0_ok (N : Nat) (hlp : LoopsOk Tryz.prog (E104 N).lp B104_0) (hΓ : CtxOk Tryz.prog (E104 N).Γ) : LoopOk Tryz.prog (mkL N104_0 f104_0_sh (f104_0_F N)) 0 B104_0 := by
 refine loopOk_of (E := E104 N) thOk hΓ mixed hlp ?_
 intro R ls K r h
 unfold f104_0_F at h
 split at h
 ·
  exact ⟨N, by rw [f104_0_lp_eq]; exact h⟩
 ·
  cases h
theorem lok104_0 (N : Nat) (hΓ : CtxOk Tryz.prog GQ2) : LoopOk Tryz.prog (mkL N104_0 f104_0_sh (f104_0_F N)) 0 B104_0 := f104_0_ok N (loopsOk_of (l := []) (by kernel_rfl) trivial) hΓ
theorem f104_contract (N : Nat) (hΓ : CtxOk Tryz.prog GQ2) : Contract Tryz.prog 104 { sig := S104, impl := fun _ ds k => call (E104 N) S104 26 B104 R104 ds k } :=
 call_contract (E := E104 N) thOk hΓ mixed ok104.look ok104.body ok104.n ok104.rv ok104.name rfl (by decide) (loopsOk_of (l := [(0, B104_0)]) (by kernel_rfl) (allOk_cons (L := mkL N104_0 f104_0_sh (f104_0_F N)) rfl (lok104_0 N hΓ) trivial))
theorem f104_raw_eq {R : Type} (N : Nat) (a b x : List Int) (k : List DV → Option R) : call (E104 N) S104 26 B104 R104 [.lst (.one .u8) 32 a, .lst (.one .u8) 32 b, .v (.one (.ints .u8 32 x))] k = f104_raw N a b x k := by kernel_rfl
theorem f104_loop {R : Type} {N : Nat} (k1 : Bool → Int → List Int → List Int → List Int → List Int → List Int → Option R) {a b x z : List Int} {n : Nat} (ha : okF a = true) (hb : okF b = true) (hx : okB x = true) (hs : sameX a = false) (hn : a.length / 32 = n) (hnb : n ≤ b.length / 32) :
  ∀ j i : Nat, i + j = n → ∀ fuel, j < fuel → f104_0_lp N k1 fuel (i : Int) a b x z (sN (secW (basG (numF a) (vS x) n) (numF b) i)) = k1 false (n : Int) a b x z (sN (secW (basG (numF a) (vS x) n) (numF b) n)) := by
 have h1 := okF_n ha
 intro j
 induction j with
 | zero =>
  intro i h fuel hf
  obtain ⟨f, rfl⟩ : ∃ f, fuel = f + 1 := ⟨fuel - 1, by omega⟩
  show f104_0_st N (f104_0_lp N _ f) _ _ _ _ _ _ _ = _
  unfold f104_0_st
  rw [rows32 ha, hn, ltF (by omega), cond_false, show i = n by omega]
 | succ j ih =>
  intro i h fuel hf
  obtain ⟨f, rfl⟩ : ∃ f, fuel = f + 1 := ⟨fuel - 1, by omega⟩
  show f104_0_st N (f104_0_lp N _ f) _ _ _ _ _ _ _ = _
  unfold f104_0_st
  have e2 : List.take 32 (List.drop (i * 32) b) = elF b i := rfl
  have e1 : decide ((i : Int) < nI n) = true := decide_eq_true (show (i : Int) < (n : Int) by omega)
  rw [rows32 ha, rows32 hb, hn, ltT (show i < n by omega), ha, hx, hs, ge0, ltT (show i < b.length / 32 by omega), toN, e2, okF_el hb (show i < b.length / 32 by omega), okB_sN, okB_sN, Int.toNat_natCast, vS_sN (basG_lt _ _ _ _), vS_sN (secW_lt _ _ _), wAdd (by omega)]
  simp only [Bool.and_self, cond_true, Bool.not_false]
  exact ih (i + 1) (by omega) f (by omega)
def I104 : (R : Type) → List DV → (List DV → Option R) → Option R := fun _ ds k => match ds with
 | [.lst (.one .u8) 32 a, .lst (.one .u8) 32 b, .v (.one (.ints .u8 32 x))] =>
  bif okF a && okF b && okB x && (!sameX a) && Nat.ble (a.length / 32) (b.length / 32) then k [.v (.one (.ints .u8 32 (sN (valG (numF a) (numF b) (vS x) (a.length / 32) (a.length / 32)))))] else none
 | _ => none
theorem c104 : Contract Tryz.prog 104 { sig := S104, impl := I104 } := by
 refine Contract.refine fun R ds k r h => ?_
 unfold I104 at h
 split at h
 ·
  rename_i a b x
  refine ⟨_, f104_contract (a.length / 32 + 1) GQ2_ok, ?_⟩
  cases hc : okF a && okF b && okB x && (!sameX a) && Nat.ble (a.length / 32) (b.length / 32) with
  | false => rw [hc] at h; cases h
  | true =>
   rw [hc, cond_true] at h
   simp only [Bool.and_eq_true, Bool.not_eq_true'] at hc
   obtain ⟨⟨⟨⟨h1, h2⟩, h3⟩, h4⟩, h5⟩ := hc
   rw [f104_raw_eq]
   unfold f104_raw
   rw [← secW_val] at h
   have := f104_loop (N := a.length / 32 + 1) (z := List.replicate 32 0) (fun w0_1 w0_2 w0_3 w0_4 w0_5 w0_6 w0_7 => k [DV.v (SV.one (At.ints IntKind.u8 32 w0_7))]) h1 h2 h3 h4 rfl (Nat.le_of_ble_eq_true h5) (a.length / 32) 0 (by omega) (a.length / 32 + 1) (by omega)
   have e : sN (secW (basG (numF a) (vS x) (a.length / 32)) (numF b) 0) = List.replicate 32 0 := b_zero'.symm
   rw [e] at this
   exact this.trans h
 ·
  exact (Option.some_ne_none _ h.symm).elim
def GQ3 : Ctx := (47, { sig := S47, impl := I77 }) :: (48, { sig := S48, impl := I48 }) :: (49, { sig := S49, impl := I49 }) :: (73, { sig := S73, impl := I73 }) :: (104, { sig := S104, impl := I104 }) :: (107, { sig := S107, impl := I107 }) :: []
theorem GQ3_ok : CtxOk Tryz.prog GQ3 := ctxOk_cons ok47 rfl c47 (ctxOk_cons ok48 rfl c48 (ctxOk_cons ok49 rfl c49 (ctxOk_cons ok73 rfl c73 (ctxOk_cons ok104 rfl c104 (ctxOk_cons ok107 rfl c107 ctxOk_nil)))))
def f32_raw {R : Type} (N : Nat) (s x : List Int) (k : List DV → Option R) : Option R :=
 bif okS s then bif (ids33 s).length.ble 1073741824 then bif idsN (ids33 s) != 0 then k [.v (.one (.ints .u8 32 (List.replicate 32 0))), .v (.one (.int .i64 (idsN (ids33 s))))] else bif okS s then bif (ids33 s).length.ble 33554432 then bif okS s then bif okF (arrN (plF (ids33 s)) (ids33 s).length) && okF (arrN (fun i => vS (shV s i)) (s.length / 33)) && okB x && !sameX (arrN (plF (ids33 s)) (ids33 s).length) && ((arrN (plF (ids33 s)) (ids33 s).length).length / 32).ble ((arrN (fun i => vS (shV s i)) (s.length / 33)).length / 32) then k [.v (.one (.ints .u8 32 (sN (valG (numF (arrN (plF (ids33 s)) (ids33 s).length)) (numF (arrN (fun i => vS (shV s i)) (s.length / 33))) (vS x) ((arrN (plF (ids33 s)) (ids33 s).length).length / 32) ((arrN (plF (ids33 s)) (ids33 s).length).length / 32))))), .v (.one (.int .i64 0))] else none else none else none else none else none else none
def E32 (N : Nat) : Env := { Θ := Th, Γ := GQ3, K := K32, ν := N32, fuel := 0, lp := [] }
theorem f32_contract (N : Nat) (hΓ : CtxOk Tryz.prog GQ3) : Contract Tryz.prog 32 { sig := S32, impl := fun _ ds k => call (E32 N) S32 21 B32 R32 ds k } :=
 call_contract (E := E32 N) thOk hΓ mixed ok32.look ok32.body ok32.n ok32.rv ok32.name rfl (by decide) (loopsOk_of (l := []) (by kernel_rfl) trivial)
theorem f32_raw_eq {R : Type} (N : Nat) (s x : List Int) (k : List DV → Option R) : call (E32 N) S32 21 B32 R32 [.lst (.mix ck78) 33 s, .v (.one (.ints .u8 32 x))] k = f32_raw N s x k := by kernel_rfl
def f46_raw {R : Type} (N : Nat) (s : List Int) (t : Int) (k : List DV → Option R) : Option R :=
 bif thrE t == 0 then
 let v0 : Bool := bif true then decide (nI (rowLen 33 s) < t) else false;
 bif v0 then k [.v (.one (.int .i64 8))] else bif thrE t == 0 then bif okS s then bif (ids33 s).length.ble 1073741824 then k [.v (.one (.int .i64 (idsN (ids33 s))))] else none else none else k [.v (.one (.int .i64 (thrE t)))]
else bif thrE t == 0 then bif okS s then bif (ids33 s).length.ble 1073741824 then k [.v (.one (.int .i64 (idsN (ids33 s))))] else none else none else k [.v (.one (.int .i64 (thrE t)))]
def E46 (N : Nat) : Env := { Θ := Th, Γ := GQ3, K := K46, ν := N46, fuel := 0, lp := [] }
theorem f46_contract (N : Nat) (hΓ : CtxOk Tryz.prog GQ3) : Contract Tryz.prog 46 { sig := S46, impl := fun _ ds k => call (E46 N) S46 22 B46 R46 ds k } :=
 call_contract (E := E46 N) thOk hΓ mixed ok46.look ok46.body ok46.n ok46.rv ok46.name rfl (by decide) (loopsOk_of (l := []) (by kernel_rfl) trivial)
theorem f46_raw_eq {R : Type} (N : Nat) (s : List Int) (t : Int) (k : List DV → Option R) : call (E46 N) S46 22 B46 R46 [.lst (.mix ck78) 33 s, .v (.one (.int .i64 t))] k = f46_raw N s t k := by kernel_rfl
def f106_0_sh : Shp := ⟨40, 2, [(0, .one (.fix (.own 0))), (1, .one (.int .i64)), (5, .one (.fix (.own 14))), (6, .one (.fix (.own 16))), (7, .one (.int .i64))], [(0, .view (.mix ck78) 33), (14, .row (.one .u8) 32), (16, .row (.one .u8) 32)]⟩
def f106_0_ex1 : Shp := ⟨40, 2, [(4, .one .bool), (39, .one .bool), (21, .one .bool), (0, .one (.fix (.own 0))), (1, .one (.int .i64)), (5, .one (.fix (.own 14))), (6, .one (.fix (.own 16))), (7, .one (.int .i64))], [(0, .view (.mix ck78) 33), (14, .row (.one .u8) 32), (16, .row (.one .u8) 32)]⟩
def f106_0_ex2 : Shp := ⟨40, 2, [(21, .one .bool), (0, .one (.fix (.own 0))), (1, .one (.int .i64)), (5, .one (.fix (.own 14))), (6, .one (.fix (.own 16))), (7, .one (.int .i64))], [(0, .view (.mix ck78) 33), (14, .row (.one .u8) 32), (16, .row (.one .u8) 32)]⟩
def f106_0_st {R : Type} (N : Nat) (self : Int → Int → List Int → List Int → List Int → Option R) (k1 : Bool → Bool → Bool → Int → Int → List Int → List Int → List Int → Option R) (k2 : Bool → Int → Int → List Int → List Int → List Int → Option R) (x1 x2 : Int) (x3 x4 x5 : List Int) : Option R :=
 bif decide (x2 < nI (rowLen 33 x3)) then
 bif hiOk (some x1) (rowLen 32 x4) then
 bif hiOk (some x1) (rowLen 32 x5) then
 bif decide (0 ≤ x2) && decide (x2 < nI (rowLen 32 x4)) then
 let v0 := Go.Eng.sub x4 .z (mulE (Go.Eng.subN (hiNat (some x1) (rowLen 32 x4)) none) 32);
 let v1 := Go.Eng.sub x5 .z (mulE (Go.Eng.subN (hiNat (some x1) (rowLen 32 x5)) none) 32);
 bif okF v0 && okF v1 && okB (List.take 32 (List.drop (mulE x2.toNat 32) x4)) && !sameX v0 && (v0.length / 32).ble (v1.length / 32) then
 bif decide (0 ≤ x2) && decide (x2 < nI (rowLen 32 x5)) then
 bif !decide (sN (valG (numF v0) (numF v1) (vS (List.take 32 (List.drop (mulE x2.toNat 32) x4))) (v0.length / 32) (v0.length / 32)) = List.take 32 (List.drop (mulE x2.toNat 32) x5)) then k1 false (!decide (sN (valG (numF v0) (numF v1) (vS (List.take 32 (List.drop (mulE x2.toNat 32) x4))) (v0.length / 32) (v0.length / 32)) = List.take 32 (List.drop (mulE x2.toNat 32) x5))) (decide (x2 < nI (rowLen 33 x3))) x1 x2 x3 x4 x5
 else
 let v2 := IntKind.i64.wrap (x2 + 1);
 self x1 v2 x3 x4 x5
 else none
 else none
 else none
 else none
 else none
else k2 (decide (x2 < nI (rowLen 33 x3))) x1 x2 x3 x4 x5
def f106_0_lp {R : Type} (N : Nat) (k1 : Bool → Bool → Bool → Int → Int → List Int → List Int → List Int → Option R) (k2 : Bool → Int → Int → List Int → List Int → List Int → Option R) : Nat → Int → Int → List Int → List Int → List Int → Option R
 | 0, _, _, _, _, _ => none
 | n + 1, x1, x2, x3, x4, x5 => f106_0_st N (f106_0_lp N k1 k2 n) k1 k2 x1 x2 x3 x4 x5
def f106_0_F (N : Nat) : (R : Type) → List Leaf → (X → AS → Option R) → Option R := fun _ ls K => match ls with
 | [.i x1, .i x2, .l x3, .l x4, .l x5] => f106_0_lp N (fun y1 y2 y3 y4 y5 y6 y7 y8 => K (.ret) (fill f106_0_ex1 [.b y1, .b y2, .b y3, .i y4, .i y5, .l y6, .l y7, .l y8])) (fun y1 y2 y3 y4 y5 y6 => K .normal (fill f106_0_ex2 [.b y1, .i y2, .i y3, .l y4, .l y5, .l y6])) N x1 x2 x3 x4 x5
 | _ => none
def f106_raw {R : Type} (N : Nat) (s : List Int) (t : Int) (k : List DV → Option R) : Option R :=
 bif decide (nI (rowLen 33 s) ≤ t) then k [.v (.one (.bool true))] else bif okS s then bif (ids33 s).length.ble 33554432 then bif okS s then f106_0_lp N (fun w0_1 w0_2 w0_3 w0_4 w0_5 w0_6 w0_7 w0_8 => k [.v (.one (.bool w0_1))]) (fun w1_1 w1_2 w1_3 w1_4 w1_5 w1_6 => k [.v (.one (.bool true))]) N t t s (arrN (plF (ids33 s)) (ids33 s).length) (arrN (fun i => vS (shV s i)) (s.length / 33)) else none else none else none
def E106 (N : Nat) : Env := { Θ := Th, Γ := GQ3, K := K106, ν := N106, fuel := 0, lp := [(0, mkL N106_0 f106_0_sh (f106_0_F N))] }
theorem f106_0_st_eq {R : Type} (N : Nat) (K : X → AS → Option R) (n : Nat) (x1 x2 : Int) (x3 x4 x5 : List Int) : roundsOf (E106 N) N106_0 0 B106_0 K (n + 1) (fill f106_0_sh [.i x1, .i x2, .l x3, .l x4, .l x5]) = f106_0_st N (fun x1 x2 x3 x4 x5 => roundsOf (E106 N) N106_0 0 B106_0 K n (fill f106_0_sh [.i x1, .i x2, .l x3, .l x4, .l x5])) (fun y1 y2 y3 y4 y5 y6 y7 y8 => K (.ret) (fill f106_0_ex1 [.b y1, .b y2, .b y3, .i y4, .i y5, .l y6, .l y7, .l y8])) (fun y1 y2 y3 y4 y5 y6 => K .normal (fill f106_0_ex2 [.b y1, .i y2, .i y3, .l y4, .l y5, .l y6])) x1 x2 x3 x4 x5 := by kernel_rfl
theorem f106_0_lp_eq {R : Type} (N : Nat) (K : X → AS → Option R) : ∀ (n : Nat) (x1 x2 : Int) (x3 x4 x5 : List Int), roundsOf (E106 N) N106_0 0 B106_0 K n (fill f106_0_sh [.i x1, .i x2, .l x3, .l x4, .l x5]) = f106_0_lp N (fun y1 y2 y3 y4 y5 y6 y7 y8 => K (.ret) (fill f106_0_ex1 [.b y1, .b y2, .b y3, .i y4, .i y5, .l y6, .l y7, .l y8])) (fun y1 y2 y3 y4 y5 y6 => K .normal (fill f106_0_ex2 [.b y1, .i y2, .i y3, .l y4, .l y5, .l y6])) n x1 x2 x3 x4 x5
 | 0, _, _, _, _, _ => rfl
 | n + 1, x1, x2, x3, x4, x5 => by
  rw [f106_0_st_eq, f106_0_lp, show (fun x1 x2 x3 x4 x5 => roundsOf (E106 N) N106_0 0 B106_0 K n (fill f106_0_sh [.i x1, .i x2, .l x3, .l x4, .l x5])) = f106_0_lp N (fun y1 y2 y3 y4 y5 y6 y7 y8 => K (.ret) (fill f106_0_ex1 [.b y1, .b y2, .b y3, .i y4, .i y5, .l y6, .l y7, .l y8])) (fun y1 y2 y3 y4 y5 y6 => K .normal (fill f106_0_ex2 [.b y1, .i y2, .i y3, .l y4, .l y5, .l y6])) n from by funext x1 x2 x3 x4 x5; exact f106_0_lp_eq N K n x1 x2 x3 x4 x5]
theorem f106_0_ok (N : Nat) (hlp : LoopsOk Tryz.prog (E106 N).lp B106_0) (hΓ : CtxOk Tryz.prog (E106 N).Γ) : LoopOk Tryz.prog (mkL N106_0 f106_0_sh (f106_0_F N)) 0 B106_0 := by
 refine loopOk_of (E := E106 N) thOk hΓ mixed hlp ?_
 intro R ls K r h
 unfold f106_0_F at h
 split at h
 ·
  exact ⟨N, by rw [f106_0_lp_eq]; exact h⟩
 ·
  cases h
theorem lok106_0 (N : Nat) (hΓ : CtxOk Tryz.prog GQ3) : LoopOk Tryz.prog (mkL N106_0 f106_0_sh (f106_0_F N)) 0 B106_0 := f106_0_ok N (loopsOk_of (l := []) (by kernel_rfl) trivial) hΓ
theorem f106_contract (N : Nat) (hΓ : CtxOk Tryz.prog GQ3) : Contract Tryz.prog 106 { sig := S106, impl := fun _ ds k => call (E106 N) S106 40 B106 R106 ds k } :=
 call_contract (E := E106 N) thOk hΓ mixed ok106.look ok106.body ok106.n ok106.rv ok106.name rfl (by decide) (loopsOk_of (l := [(0, B106_0)]) (by kernel_rfl) (allOk_cons (L := mkL N106_0 f106_0_sh (f106_0_F N)) rfl (lok106_0 N hΓ) trivial))
theorem f106_raw_eq {R : Type} (N : Nat) (s : List Int) (t : Int) (k : List DV → Option R) : call (E106 N) S106 40 B106 R106 [.lst (.mix ck78) 33 s, .v (.one (.int .i64 t))] k = f106_raw N s t k := by kernel_rfl
theorem ids33_len (s : List Int) : (ids33 s).length = s.length / 33 := idsS_len _ _
theorem pts33 {s : List Int} (hs : okS s = true) {i : Nat} (h : i < s.length / 33) : pX (P33 s) i = plF (ids33 s) i ∧ pY (P33 s) i = vS (shV s i) := pts_x hs h
theorem vals_lt (s : List Int) : LtE (fun i => vS (shV s i)) := fun _ => vS_lt _
theorem val33 {s : List Int} (hs : okS s = true) (v : Nat) {t n : Nat} (ht : t ≤ n) (hn : n = s.length / 33) :
  valG (numF (arrN (plF (ids33 s)) t)) (numF (arrN (fun i => vS (shV s i)) t)) v t t = valG (pX (P33 s)) (pY (P33 s)) v t t :=
 valG_congr (fun j hj => by rw [numF_arr (plF_lt _) hj, (pts33 hs (by omega)).1]) (fun j hj => by rw [numF_arr (vals_lt s) hj, (pts33 hs (by omega)).2]) t (Nat.le_refl _)
theorem c32 : Contract Tryz.prog 32 { sig := S32, impl := I31 } := by
 refine Contract.refine fun R ds k r h => ?_
 unfold I31 at h
 split at h
 ·
  rename_i c s x
  refine ⟨_, f32_contract 0 GQ3_ok, ?_⟩
  split at h
  ·
   rename_i hl
   have hl := cksEq_iff.1 hl
   subst hl
   cases hc2 : okS s && okB x with
   | false => rw [hc2] at h; cases h
   | true =>
    rw [hc2, cond_true] at h
    rw [Bool.and_eq_true] at hc2
    obtain ⟨hc, hx⟩ := hc2
    obtain ⟨b1, b2, b3⟩ := okS_n hc
    have hn := ids33_len s
    show call (E32 0) S32 21 B32 R32 [DV.lst (RK.mix ck78) 33 s, .v (.one (.ints .u8 32 x))] k = some r
    rw [f32_raw_eq]
    unfold f32_raw
    rw [hc, hn, Nat.ble_eq_true_of_le (show s.length / 33 ≤ 1073741824 by omega), zS_eq]
    simp only [cond_true]
    by_cases h2 : idsN (ids33 s) = 0
    ·
     have hi := ids_ok h2
     have hle := hi.le
     rw [hn] at hle
     have hsm := pl_same h2
     rw [hn] at hsm
     rw [decide_eq_true h2, cond_true] at h
     rw [h2, show ((0 : Int) != 0) = false from rfl, hx, arr_okF (by omega), arr_okF (by omega), hsm, arr_div, arr_div, Nat.ble_eq_true_of_le (show s.length / 33 ≤ 33554432 by omega), Nat.ble_eq_true_of_le (Nat.le_refl (s.length / 33)), val33 hc _ (Nat.le_refl _) rfl]
     simp only [Bool.and_self, cond_true, cond_false, Bool.not_false]
     exact h
    ·
     rw [decide_eq_false h2, cond_false] at h
     rw [show (idsN (ids33 s) != 0) = true by simpa using h2, cond_true]
     exact h
  ·
   cases h
 ·
  exact (Option.some_ne_none _ h.symm).elim
def enoE (s : List Int) (t : Int) : Int := bif decide (thrE t = 0) then (bif decide (((s.length / 33 : Nat) : Int) < t) then 8 else idsN (ids33 s)) else thrE t
def I46 : (R : Type) → List DV → (List DV → Option R) → Option R := fun _ ds k => match ds with
 | [.lst (.mix c) 33 s, .v (.one (.int .i64 t))] => match cksEq c ck78 with
  | true => bif okS s then k [.v (.one (.int .i64 (enoE s t)))] else none
  | false => none
 | _ => none
theorem c46 : Contract Tryz.prog 46 { sig := S46, impl := I46 } := by
 refine Contract.refine fun R ds k r h => ?_
 unfold I46 at h
 split at h
 ·
  rename_i c s t
  refine ⟨_, f46_contract 0 GQ3_ok, ?_⟩
  split at h
  ·
   rename_i hl
   have hl := cksEq_iff.1 hl
   subst hl
   cases hc : okS s with
   | false => rw [hc] at h; cases h
   | true =>
    rw [hc, cond_true] at h
    obtain ⟨b1, b2, b3⟩ := okS_n hc
    have hn := ids33_len s
    show call (E46 0) S46 22 B46 R46 [DV.lst (RK.mix ck78) 33 s, .v (.one (.int .i64 t))] k = some r
    rw [f46_raw_eq]
    unfold f46_raw
    unfold enoE at h
    have hr : nI (rowLen 33 s) = ((s.length / 33 : Nat) : Int) := rfl
    rw [hc, hn, hr, Nat.ble_eq_true_of_le (show s.length / 33 ≤ 1073741824 by omega)]
    by_cases h0 : thrE t = 0
    ·
     rw [decide_eq_true h0] at h
     rw [h0, show ((0 : Int) == 0) = true from rfl]
     cases h1 : decide (((s.length / 33 : Nat) : Int) < t) with
     | true => rw [h1] at h; exact h
     | false => rw [h1] at h; exact h
    ·
     rw [decide_eq_false h0] at h
     rw [show (thrE t == 0) = false by simpa using h0]
     exact h
  ·
   cases h
 ·
  exact (Option.some_ne_none _ h.symm).elim
theorem arr_take (f : Nat → Nat) {t n : Nat} (h : t < n) : List.take (t * 32) (arrN f n) = arrN f t := by
 obtain ⟨C, hC⟩ := arr_split f h
 rw [hC, List.take_left' (arr_len f t)]
theorem val_evN {X Y : Nat → Nat} (hX : LtE X) (hY : LtE Y) (v t : Nat) : valG X Y v t t = evN (arrN (coefG X Y t) t) v := by
 apply q_inj (valG_lt _ _ _ _ _) (evN_lt _ _)
 rw [← val_coefs hX hY v t t (Nat.le_refl _), evN_q, arr_div]
 exact ev_congr fun i hi => by rw [numF_arr (coefG_lt _ _ _) hi]; rfl
theorem f106_loop {R : Type} {N : Nat} (K : Bool → Option R) {s : List Int} {n t : Nat} (hs : okS s = true) (hid : idsN (ids33 s) = 0) (hn : n = s.length / 33) (ht : t < n) (h1 : 1 ≤ t) :
  ∀ j i : Nat, i + j = n → ∀ fuel, j < fuel → f106_0_lp N (fun w _ _ _ _ _ _ _ => K w) (fun _ _ _ _ _ _ => K true) fuel (t : Int) (i : Int) s (arrN (plF (ids33 s)) n) (arrN (fun i => vS (shV s i)) n) =
   K (onG (P33 s) (arrN (coefG (pX (P33 s)) (pY (P33 s)) t) t) j i) := by
 have hI := ids_ok hid
 have hln := ids33_len s
 have hle := hI.le
 have hr : nI (rowLen 33 s) = (n : Int) := by rw [hn]; rfl
 intro j
 induction j with
 | zero =>
  intro i h fuel hf
  obtain ⟨f, rfl⟩ : ∃ f, fuel = f + 1 := ⟨fuel - 1, by omega⟩
  show f106_0_st N (f106_0_lp N _ _ f) _ _ _ _ _ _ _ = _
  unfold f106_0_st
  rw [hr, ltF (by omega), cond_false]; rfl
 | succ j ih =>
  intro i h fuel hf
  obtain ⟨f, rfl⟩ : ∃ f, fuel = f + 1 := ⟨fuel - 1, by omega⟩
  show f106_0_st N (f106_0_lp N _ _ f) _ _ _ _ _ _ _ = _
  unfold f106_0_st
  have hrow : ∀ f : Nat → Nat, rowLen 32 (arrN f n) = n := fun f => arr_div f n
  have hok : hiOk (some (t : Int)) n = true := by
   show (decide ((0 : Int) ≤ (t : Int)) && decide ((t : Int) ≤ (n : Int))) = true
   rw [decide_eq_true (by omega), decide_eq_true (by omega)]; rfl
  have hcut : ∀ f : Nat → Nat, Go.Eng.sub (arrN f n) Off.z (mulE (Go.Eng.subN (hiNat (some (t : Int)) n) none) 32) = arrN f t := fun f => arr_take f ht
  have hsm : sameX (arrN (plF (ids33 s)) t) = false := by
   cases hq : sameX (arrN (plF (ids33 s)) t) with
   | false => rfl
   | true =>
    obtain ⟨a, b, h1, _, h3, h4⟩ := dupAll_iff.1 hq
    rw [arr_div, Nat.zero_add] at h3
    rw [numF_arr (plF_lt _) (show a < t by omega), numF_arr (plF_lt _) h3] at h4
    exact absurd (sN_inj1 (plF_lt _ a) (plF_lt _ b) h4) (hI.pl a b h1 (by omega))
  have hp := pts33 hs (i := i) (by omega)
  have hon : onG (P33 s) (arrN (coefG (pX (P33 s)) (pY (P33 s)) t) t) (j + 1) i = (decide (evN (arrN (coefG (pX (P33 s)) (pY (P33 s)) t) t) (pX (P33 s) i) = pY (P33 s) i) && onG (P33 s) (arrN (coefG (pX (P33 s)) (pY (P33 s)) t) t) j (i + 1)) := rfl
  have hni : nI n = (n : Int) := rfl
  rw [hr, hrow, hrow, hok, ltT (show i < n by omega), ge0, toN, hcut, hcut, arr_el _ (show i < n by omega), arr_el _ (show i < n by omega), vS_sN (plF_lt _ i), hon, ← hp.1]
  dsimp only
  rw [arr_okF (by omega), arr_okF (by omega), okB_sN, hsm, arr_div, arr_div, Nat.ble_eq_true_of_le (Nat.le_refl t), val33 hs _ (show t ≤ n by omega) hn, val_evN (pX_lt _) (pY_lt _), ← hp.2, wAdd (by omega)]
  simp only [Bool.and_self, cond_true, Bool.not_false]
  by_cases e : evN (arrN (coefG (pX (P33 s)) (pY (P33 s)) t) t) (pX (P33 s) i) = pY (P33 s) i
  ·
   rw [decide_eq_true e, decide_eq_true (by rw [e]), Bool.not_true, cond_false, Bool.true_and]
   exact ih (i + 1) (by omega) f (by omega)
  ·
   rw [decide_eq_false e, decide_eq_false (fun h => e (sN_inj1 (evN_lt _ _) (pY_lt _ _) h)), Bool.not_false, cond_true, Bool.false_and]
def I106 : (R : Type) → List DV → (List DV → Option R) → Option R := fun _ ds k => match ds with
 | [.lst (.mix c) 33 s, .v (.one (.int .i64 t))] => match cksEq c ck78 with
  | true => bif okS s && decide (idsN (ids33 s) = 0) && decide (1 ≤ t) then k [.v (.one (.bool (onB s t.toNat)))] else none
  | false => none
 | _ => none
theorem c106 : Contract Tryz.prog 106 { sig := S106, impl := I106 } := by
 refine Contract.refine fun R ds k r h => ?_
 unfold I106 at h
 split at h
 ·
  rename_i c s t
  refine ⟨_, f106_contract (s.length / 33 + 1) GQ3_ok, ?_⟩
  split at h
  ·
   rename_i hl
   have hl := cksEq_iff.1 hl
   subst hl
   cases hc2 : okS s && decide (idsN (ids33 s) = 0) && decide (1 ≤ t) with
   | false => rw [hc2] at h; cases h
   | true =>
    rw [hc2, cond_true] at h
    simp only [Bool.and_eq_true, decide_eq_true_eq] at hc2
    obtain ⟨⟨hc, hid⟩, ht⟩ := hc2
    obtain ⟨b1, b2, b3⟩ := okS_n hc
    have hn := ids33_len s
    obtain ⟨m, rfl⟩ : ∃ m : Nat, t = (m : Int) := ⟨t.toNat, by omega⟩
    rw [Int.toNat_natCast] at h
    show call (E106 (s.length / 33 + 1)) S106 40 B106 R106 [DV.lst (RK.mix ck78) 33 s, .v (.one (.int .i64 (m : Int)))] k = some r
    rw [f106_raw_eq]
    unfold f106_raw
    have hr : nI (rowLen 33 s) = ((s.length / 33 : Nat) : Int) := rfl
    rw [hc, hn, hr, Nat.ble_eq_true_of_le (show s.length / 33 ≤ 33554432 by omega)]
    unfold onB at h
    by_cases hq : s.length / 33 ≤ m
    ·
     rw [Nat.ble_eq_true_of_le hq, cond_true] at h
     rw [decide_eq_true (show ((s.length / 33 : Nat) : Int) ≤ (m : Int) by omega), cond_true]
     exact h
    ·
     rw [show Nat.ble (s.length / 33) m = false by rw [← Bool.not_eq_true, Nat.ble_eq]; exact hq, cond_false] at h
     rw [decide_eq_false (show ¬ ((s.length / 33 : Nat) : Int) ≤ (m : Int) by omega), cond_false]
     simp only [cond_true]
     refine (f106_loop (N := s.length / 33 + 1) (fun w => k [DV.v (SV.one (At.bool w))]) hc hid rfl (by omega) (by omega) (s.length / 33 - m) m (by omega) (s.length / 33 + 1) (by omega)).trans ?_
     unfold togB at h
     have hpd : (P33 s).length / 64 = s.length / 33 := pts_div hc
     rw [hpd] at h
     exact h
  ·
   cases h
 ·
  exact (Option.some_ne_none _ h.symm).elim
def GQ4 : Ctx := (46, { sig := S46, impl := I46 }) :: (106, { sig := S106, impl := I106 }) :: GQ3
theorem GQ4_ok : CtxOk Tryz.prog GQ4 := ctxOk_cons ok46 rfl c46 (ctxOk_cons ok106 rfl c106 GQ3_ok)
def f34_raw {R : Type} (N : Nat) (s : List Int) (t : Int) (k : List DV → Option R) : Option R :=
 bif okS s then
 bif enoE s t != 0 then k [.v (.one (.ints .u8 32 (List.replicate 32 0))), .v (.one (.int .i64 (enoE s t)))]
 else
 bif okS s && decide (idsN (ids33 s) = 0) && decide (1 ≤ t) then
 bif !onB s t.toNat then k [.v (.one (.ints .u8 32 (List.replicate 32 0))), .v (.one (.int .i64 71))]
 else
 bif okS s then
 bif (ids33 s).length.ble 33554432 then
 bif hiOk (some t) (rowLen 32 (arrN (plF (ids33 s)) (ids33 s).length)) then
 bif okS s then
 bif hiOk (some t) (rowLen 32 (arrN (fun i => vS (shV s i)) (s.length / 33))) then
 let v0 := Go.Eng.sub (arrN (plF (ids33 s)) (ids33 s).length) .z (mulE (Go.Eng.subN (hiNat (some t) (rowLen 32 (arrN (plF (ids33 s)) (ids33 s).length))) none) 32);
 let v1 := Go.Eng.sub (arrN (fun i => vS (shV s i)) (s.length / 33)) .z (mulE (Go.Eng.subN (hiNat (some t) (rowLen 32 (arrN (fun i => vS (shV s i)) (s.length / 33)))) none) 32);
 bif okF v0 && okF v1 && okB (List.replicate 32 0) && !sameX v0 && (v0.length / 32).ble (v1.length / 32) then k [.v (.one (.ints .u8 32 (sN (valG (numF v0) (numF v1) (vS (List.replicate 32 0)) (v0.length / 32) (v0.length / 32))))), .v (.one (.int .i64 0))] else none
 else none
 else none
 else none
 else none
 else none
 else none
else none
def E34 (N : Nat) : Env := { Θ := Th, Γ := GQ4, K := K34, ν := N34, fuel := 0, lp := [] }
theorem f34_contract (N : Nat) (hΓ : CtxOk Tryz.prog GQ4) : Contract Tryz.prog 34 { sig := S34, impl := fun _ ds k => call (E34 N) S34 30 B34 R34 ds k } :=
 call_contract (E := E34 N) thOk hΓ mixed ok34.look ok34.body ok34.n ok34.rv ok34.name rfl (by decide) (loopsOk_of (l := []) (by kernel_rfl) trivial)
theorem f34_raw_eq {R : Type} (N : Nat) (s : List Int) (t : Int) (k : List DV → Option R) : call (E34 N) S34 30 B34 R34 [.lst (.mix ck78) 33 s, .v (.one (.int .i64 t))] k = f34_raw N s t k := by kernel_rfl
def f36_raw {R : Type} (N : Nat) (s : List Int) (t : Int) (k : List DV → Option R) : Option R :=
 bif thrE t == 0 then bif okS s then bif (ids33 s).length.ble 1073741824 then bif idsN (ids33 s) != 0 then k [.v (.one (.bool false)), .v (.one (.int .i64 (idsN (ids33 s))))] else bif okS s && decide (idsN (ids33 s) = 0) && decide (1 ≤ t) then k [.v (.one (.bool (onB s t.toNat))), .v (.one (.int .i64 0))] else none else none else none else bif thrE t != 0 then k [.v (.one (.bool false)), .v (.one (.int .i64 (thrE t)))] else bif okS s && decide (idsN (ids33 s) = 0) && decide (1 ≤ t) then k [.v (.one (.bool (onB s t.toNat))), .v (.one (.int .i64 0))] else none
def E36 (N : Nat) : Env := { Θ := Th, Γ := GQ4, K := K36, ν := N36, fuel := 0, lp := [] }
theorem f36_contract (N : Nat) (hΓ : CtxOk Tryz.prog GQ4) : Contract Tryz.prog 36 { sig := S36, impl := fun _ ds k => call (E36 N) S36 20 B36 R36 ds k } :=
 call_contract (E := E36 N) thOk hΓ mixed ok36.look ok36.body ok36.n ok36.rv ok36.name rfl (by decide) (loopsOk_of (l := []) (by kernel_rfl) trivial)
theorem f36_raw_eq {R : Type} (N : Nat) (s : List Int) (t : Int) (k : List DV → Option R) : call (E36 N) S36 20 B36 R36 [.lst (.mix ck78) 33 s, .v (.one (.int .i64 t))] k = f36_raw N s t k := by kernel_rfl
theorem arr_takeL (f : Nat → Nat) {t n : Nat} (h : t ≤ n) : List.take (t * 32) (arrN f n) = arrN f t := by
 rcases Nat.lt_or_ge t n with h1 | h1
 ·
  exact arr_take f h1
 ·
  have : t = n := by omega
  subst this
  rw [List.take_of_length_le (by rw [arr_len]; exact Nat.le_refl _)]
theorem c36 : Contract Tryz.prog 36 { sig := S36, impl := I35 } := by
 refine Contract.refine fun R ds k r h => ?_
 unfold I35 at h
 split at h
 ·
  rename_i c s t
  refine ⟨_, f36_contract 0 GQ4_ok, ?_⟩
  split at h
  ·
   rename_i hl
   have hl := cksEq_iff.1 hl
   subst hl
   cases hc : okS s with
   | false => rw [hc] at h; cases h
   | true =>
    rw [hc, cond_true] at h
    obtain ⟨b1, b2, b3⟩ := okS_n hc
    have hn := ids33_len s
    show call (E36 0) S36 20 B36 R36 [DV.lst (RK.mix ck78) 33 s, .v (.one (.int .i64 t))] k = some r
    rw [f36_raw_eq]
    unfold f36_raw
    rw [hc, hn, Nat.ble_eq_true_of_le (show s.length / 33 ≤ 1073741824 by omega)]
    by_cases h0 : thrE t = 0
    ·
     rw [decide_eq_true h0, cond_true] at h
     have ht := thr_ok h0
     rw [h0, show ((0 : Int) == 0) = true from rfl]
     simp only [cond_true]
     by_cases h1 : ((s.length / 33 : Nat) : Int) < 1
     ·
      rw [decide_eq_true h1, cond_true] at h
      have e : idsN (ids33 s) = 8 := by
       unfold idsN
       rw [hn, show s.length / 33 = 0 by omega]; rfl
      rw [e]; exact h
     ·
      rw [decide_eq_false h1, cond_false] at h
      by_cases h2 : idsN (ids33 s) = 0
      ·
       rw [decide_eq_true h2, cond_true] at h
       rw [h2, decide_eq_true ht.1]
       exact h
      ·
       rw [decide_eq_false h2, cond_false] at h
       rw [show (idsN (ids33 s) != 0) = true by simpa using h2, cond_true]
       exact h
    ·
     rw [decide_eq_false h0, cond_false] at h
     rw [show (thrE t == 0) = false by simpa using h0, show (thrE t != 0) = true by simpa using h0]
     exact h
  ·
   cases h
 ·
  exact (Option.some_ne_none _ h.symm).elim
theorem c34 : Contract Tryz.prog 34 { sig := S34, impl := I33 } := by
 refine Contract.refine fun R ds k r h => ?_
 unfold I33 at h
 split at h
 ·
  rename_i c s t
  refine ⟨_, f34_contract 0 GQ4_ok, ?_⟩
  split at h
  ·
   rename_i hl
   have hl := cksEq_iff.1 hl
   subst hl
   cases hc : okS s with
   | false => rw [hc] at h; cases h
   | true =>
    rw [hc, cond_true] at h
    obtain ⟨b1, b2, b3⟩ := okS_n hc
    have hn := ids33_len s
    show call (E34 0) S34 30 B34 R34 [DV.lst (RK.mix ck78) 33 s, .v (.one (.int .i64 t))] k = some r
    rw [f34_raw_eq]
    unfold f34_raw
    rw [hc, zS_eq]
    simp only [cond_true]
    by_cases h0 : thrE t = 0
    ·
     rw [decide_eq_true h0, cond_true] at h
     have ht := thr_ok h0
     by_cases h1 : ((s.length / 33 : Nat) : Int) < t
     ·
      rw [decide_eq_true h1, cond_true] at h
      have e : enoE s t = 8 := by unfold enoE; rw [decide_eq_true h0, decide_eq_true h1]; rfl
      rw [e]; exact h
     ·
      rw [decide_eq_false h1, cond_false] at h
      have e : enoE s t = idsN (ids33 s) := by unfold enoE; rw [decide_eq_true h0, decide_eq_false h1]; rfl
      rw [e]
      by_cases h2 : idsN (ids33 s) = 0
      ·
       rw [decide_eq_true h2, cond_true] at h
       have hI := ids_ok h2
       have hle := hI.le
       rw [hn] at hle
       obtain ⟨m, rfl⟩ : ∃ m : Nat, t = (m : Int) := ⟨t.toNat, by omega⟩
       have hm : m ≤ s.length / 33 := by omega
       rw [Int.toNat_natCast] at h
       rw [h2, show ((0 : Int) != 0) = false from rfl, cond_false, decide_eq_true ht.1, Int.toNat_natCast]
       simp only [Bool.and_self, cond_true, decide_true]
       cases hb : onB s m with
       | false => rw [hb] at h; exact h
       | true =>
        rw [hb, cond_true] at h
        have hrow : ∀ f : Nat → Nat, rowLen 32 (arrN f (s.length / 33)) = s.length / 33 := fun f => arr_div f _
        have hok : hiOk (some (m : Int)) (s.length / 33) = true := by
         show (decide ((0 : Int) ≤ (m : Int)) && decide ((m : Int) ≤ ((s.length / 33 : Nat) : Int))) = true
         rw [decide_eq_true (by omega), decide_eq_true (by omega)]; rfl
        have hcut : ∀ f : Nat → Nat, Go.Eng.sub (arrN f (s.length / 33)) Off.z (mulE (Go.Eng.subN (hiNat (some (m : Int)) (s.length / 33)) none) 32) = arrN f m := fun f => arr_takeL f hm
        have hsm : sameX (arrN (plF (ids33 s)) m) = false := by
         cases hq : sameX (arrN (plF (ids33 s)) m) with
         | false => rfl
         | true =>
          obtain ⟨a, b, h1, _, h3, h4⟩ := dupAll_iff.1 hq
          rw [arr_div, Nat.zero_add] at h3
          rw [numF_arr (plF_lt _) (show a < m by omega), numF_arr (plF_lt _) h3] at h4
          exact absurd (sN_inj1 (plF_lt _ a) (plF_lt _ b) h4) (hI.pl a b h1 (by omega))
        rw [hn, hrow, hrow, hok, hcut, hcut, Nat.ble_eq_true_of_le (show s.length / 33 ≤ 33554432 by omega)]
        rw [← zS_eq]
        rw [arr_okF (by omega), arr_okF (by omega), okB_z, hsm, arr_div, arr_div, Nat.ble_eq_true_of_le (Nat.le_refl m), vS_z, val33 hc _ hm rfl]
        simp only [Bool.and_self, cond_true, Bool.not_false, Bool.not_true, cond_false]
        exact h
      ·
       rw [decide_eq_false h2, cond_false] at h
       rw [show (idsN (ids33 s) != 0) = true by simpa using h2, cond_true]
       exact h
    ·
     rw [decide_eq_false h0, cond_false] at h
     have e : enoE s t = thrE t := by unfold enoE; rw [decide_eq_false h0]; rfl
     rw [e, show (thrE t != 0) = true by simpa using h0]
     exact h
  ·
   cases h
 ·
  exact (Option.some_ne_none _ h.symm).elim
def noFI : FI := { sig := { ps := [], rs := [] }, impl := fun _ _ _ => none }
theorem ctxOk_prune {Γ : Ctx} (h : CtxOk Tryz.prog Γ) : CtxOk Tryz.prog ((999999, noFI) :: Γ) := by
 intro g fi hg
 unfold findF at hg
 split at hg
 ·
  injection hg with hg; subst hg
  refine ⟨fun R ds k r hr => ?_, rfl⟩
  cases (show (none : Option R) = some r from hr)
 ·
  exact h g fi hg
def f9_0_sh : Shp := ⟨61, 2, [(0, .one (.fix (.ptr 0 0 .z 30))), (1, .one (.fix (.own 1))), (5, .one (.fix (.own 11))), (6, .one (.int .i64))], [(1, .view (.mix ck78) 33), (11, .row (.mix ck78) 33)]⟩
def f9_0_ex1 : Shp := ⟨61, 2, [(15, .one .bool), (0, .one (.fix (.ptr 0 0 .z 30))), (1, .one (.fix (.own 1))), (5, .one (.fix (.own 11))), (6, .one (.int .i64))], [(1, .view (.mix ck78) 33), (11, .row (.mix ck78) 33)]⟩
def f9_0_st {R : Type} (N : Nat) (self : Int → List Int → List Int → Option R) (k1 : Bool → Int → List Int → List Int → Option R) (x1 : Int) (x2 x3 : List Int) : Option R :=
 bif decide (x1 < nI (rowLen 33 x3)) then
 bif decide (0 ≤ x1) && decide (x1 < nI (rowLen 33 x3)) then
 let v0 := IntKind.i64.wrap (x1 + 1);
 let v1 : List Int := List.replicate 32 0 ++ [];
 let v2 := splice x3 (.at (x1.toNat * 33 + 0)) (mH 987 x1 :: v1);
 self v0 x2 v2
 else none
else k1 (decide (x1 < nI (rowLen 33 x3))) x1 x2 x3
def f9_0_lp {R : Type} (N : Nat) (k1 : Bool → Int → List Int → List Int → Option R) : Nat → Int → List Int → List Int → Option R
 | 0, _, _, _ => none
 | n + 1, x1, x2, x3 => f9_0_st N (f9_0_lp N k1 n) k1 x1 x2 x3
def f9_0_F (N : Nat) : (R : Type) → List Leaf → (X → AS → Option R) → Option R := fun _ ls K => match ls with
 | [.i x1, .l x2, .l x3] => f9_0_lp N (fun y1 y2 y3 y4 => K .normal (fill f9_0_ex1 [.b y1, .i y2, .l y3, .l y4])) N x1 x2 x3
 | _ => none
def f9_2_sh : Shp := ⟨61, 2, [(0, .one (.fix (.ptr 0 0 .z 30))), (1, .one (.fix (.own 1))), (5, .one (.fix (.own 11))), (7, .one (.int .i64))], [(1, .view (.mix ck78) 33), (11, .row (.mix ck78) 33)]⟩
def f9_2_ex1 : Shp := ⟨61, 2, [(26, .one .bool), (0, .one (.fix (.ptr 0 0 .z 30))), (1, .one (.fix (.own 1))), (5, .one (.fix (.own 11))), (7, .one (.int .i64))], [(1, .view (.mix ck78) 33), (11, .row (.mix ck78) 33)]⟩
def f9_2_st {R : Type} (N : Nat) (self : Int → List Int → List Int → Option R) (k1 : Bool → Int → List Int → List Int → Option R) (x1 : Int) (x2 x3 : List Int) : Option R :=
 bif decide (x1 < nI (rowLen 33 x2)) then
 bif decide (0 ≤ x1) && decide (x1 < nI (rowLen 33 x2)) then
 bif decide (0 ≤ x1) && decide (x1 < nI (rowLen 33 x3)) then
 let v0 := IntKind.i64.wrap (x1 + 1);
 let v1 := List.take 32 (List.drop (x1.toNat * 33 + (0 + 1)) x2) ++ [];
 let v2 := splice x3 (.at (x1.toNat * 33 + 0)) (x2.getD (x1.toNat * 33 + 0) 0 :: v1);
 self v0 x2 v2
 else none
 else none
else k1 (decide (x1 < nI (rowLen 33 x2))) x1 x2 x3
def f9_2_lp {R : Type} (N : Nat) (k1 : Bool → Int → List Int → List Int → Option R) : Nat → Int → List Int → List Int → Option R
 | 0, _, _, _ => none
 | n + 1, x1, x2, x3 => f9_2_st N (f9_2_lp N k1 n) k1 x1 x2 x3
def f9_2_F (N : Nat) : (R : Type) → List Leaf → (X → AS → Option R) → Option R := fun _ ls K => match ls with
 | [.i x1, .l x2, .l x3] => f9_2_lp N (fun y1 y2 y3 y4 => K .normal (fill f9_2_ex1 [.b y1, .i y2, .l y3, .l y4])) N x1 x2 x3
 | _ => none
def E9 (N : Nat) : Env := { Θ := Th3, Γ := GG0, K := K9, ν := N9, fuel := 0, lp := [(0, mkL N9_0 f9_0_sh (f9_0_F N)), (2, mkL N9_2 f9_2_sh (f9_2_F N))] }
theorem f9_0_st_eq {R : Type} (N : Nat) (K : X → AS → Option R) (n : Nat) (x1 : Int) (x2 x3 : List Int) : roundsOf (E9 N) N9_0 0 B9_0 K (n + 1) (fill f9_0_sh [.i x1, .l x2, .l x3]) = f9_0_st N (fun x1 x2 x3 => roundsOf (E9 N) N9_0 0 B9_0 K n (fill f9_0_sh [.i x1, .l x2, .l x3])) (fun y1 y2 y3 y4 => K .normal (fill f9_0_ex1 [.b y1, .i y2, .l y3, .l y4])) x1 x2 x3 := by kernel_rfl
theorem f9_0_lp_eq {R : Type} (N : Nat) (K : X → AS → Option R) : ∀ (n : Nat) (x1 : Int) (x2 x3 : List Int), roundsOf (E9 N) N9_0 0 B9_0 K n (fill f9_0_sh [.i x1, .l x2, .l x3]) = f9_0_lp N (fun y1 y2 y3 y4 => K .normal (fill f9_0_ex1 [.b y1, .i y2, .l y3, .l y4])) n x1 x2 x3
 | 0, _, _, _ => rfl
 | n + 1, x1, x2, x3 => by
  rw [f9_0_st_eq, f9_0_lp, show (fun x1 x2 x3 => roundsOf (E9 N) N9_0 0 B9_0 K n (fill f9_0_sh [.i x1, .l x2, .l x3])) = f9_0_lp N (fun y1 y2 y3 y4 => K .normal (fill f9_0_ex1 [.b y1, .i y2, .l y3, .l y4])) n from by funext x1 x2 x3; exact f9_0_lp_eq N K n x1 x2 x3]
theorem f9_2_st_eq {R : Type} (N : Nat) (K : X → AS → Option R) (n : Nat) (x1 : Int) (x2 x3 : List Int) : roundsOf (E9 N) N9_2 2 B9_2 K (n + 1) (fill f9_2_sh [.i x1, .l x2, .l x3]) = f9_2_st N (fun x1 x2 x3 => roundsOf (E9 N) N9_2 2 B9_2 K n (fill f9_2_sh [.i x1, .l x2, .l x3])) (fun y1 y2 y3 y4 => K .normal (fill f9_2_ex1 [.b y1, .i y2, .l y3, .l y4])) x1 x2 x3 := by kernel_rfl
theorem f9_2_lp_eq {R : Type} (N : Nat) (K : X → AS → Option R) : ∀ (n : Nat) (x1 : Int) (x2 x3 : List Int), roundsOf (E9 N) N9_2 2 B9_2 K n (fill f9_2_sh [.i x1, .l x2, .l x3]) = f9_2_lp N (fun y1 y2 y3 y4 => K .normal (fill f9_2_ex1 [.b y1, .i y2, .l y3, .l y4])) n x1 x2 x3
 | 0, _, _, _ => rfl
 | n + 1, x1, x2, x3 => by
  rw [f9_2_st_eq, f9_2_lp, show (fun x1 x2 x3 => roundsOf (E9 N) N9_2 2 B9_2 K n (fill f9_2_sh [.i x1, .l x2, .l x3])) = f9_2_lp N (fun y1 y2 y3 y4 => K .normal (fill f9_2_ex1 [.b y1, .i y2, .l y3, .l y4])) n from by funext x1 x2 x3; exact f9_2_lp_eq N K n x1 x2 x3]
def mHs (j : Nat) : List Int := mH 987 (j : Int) :: List.replicate 32 0
theorem mHs_len (j : Nat) : (mHs j).length = 33 := by unfold mHs; rw [List.length_cons, List.length_replicate]
def mkH (n : Nat) : List Int := headG mHs n
theorem f9_marks {R : Type} {N : Nat} (k1 : Bool → Int → List Int → List Int → Option R) (x : List Int) {g : Nat → List Int} (hg : ∀ j, (g j).length = 33) {n : Nat} (hb : n ≤ 1073741823) :
  ∀ j i : Nat, i + j = n → ∀ fuel, j < fuel → f9_0_lp N k1 fuel (i : Int) x (headG (upTo mHs g i) n) = k1 false (n : Int) x (mkH n) := by
 have hr : ∀ i, nI (rowLen 33 (headG (upTo mHs g i) n)) = (n : Int) := fun i => by
  show (((headG (upTo mHs g i) n).length / 33 : Nat) : Int) = _
  rw [headG_lenK (upTo_len mHs_len hg i) n, Nat.mul_div_cancel _ (by decide)]
 intro j
 induction j with
 | zero =>
  intro i h fuel hf
  obtain ⟨f, rfl⟩ : ∃ f, fuel = f + 1 := ⟨fuel - 1, by omega⟩
  show f9_0_st N (f9_0_lp N _ f) _ _ _ _ = _
  unfold f9_0_st
  rw [hr, ltF (by omega), cond_false, show i = n by omega, upTo_all]; rfl
 | succ j ih =>
  intro i h fuel hf
  obtain ⟨f, rfl⟩ : ∃ f, fuel = f + 1 := ⟨fuel - 1, by omega⟩
  show f9_0_st N (f9_0_lp N _ f) _ _ _ _ = _
  unfold f9_0_st
  have e : mH 987 (i : Int) :: (List.replicate 32 0 ++ []) = mHs i := by rw [List.append_nil]; rfl
  rw [hr, ltT (show i < n by omega), ge0, Int.toNat_natCast, wAdd (by omega)]
  dsimp only
  rw [e, show Off.at (i * 33 + 0) = Off.at (i * 33) from rfl, upTo_set mHs_len hg (show i < n by omega)]
  simp only [Bool.and_self, cond_true]
  exact ih (i + 1) (by omega) f (by omega)
theorem f9_copy {R : Type} {N : Nat} (k1 : Bool → Int → List Int → List Int → Option R) {x : List Int} {g : Nat → List Int} (hg : ∀ j, (g j).length = 33) {m n : Nat} (hx : x.length = m * 33) (hm : m ≤ n) (hb : n ≤ 1073741823) :
  ∀ j i : Nat, i + j = m → ∀ fuel, j < fuel → f9_2_lp N k1 fuel (i : Int) x (headG (upTo (elP x 33) g i) n) = k1 false (m : Int) x (headG (upTo (elP x 33) g m) n) := by
 have hw : ∀ j : Nat, (elP x 33 j).length = 33 := fun j => elP_len _ _ _
 have hr : ∀ i, nI (rowLen 33 (headG (upTo (elP x 33) g i) n)) = (n : Int) := fun i => by
  show (((headG (upTo (elP x 33) g i) n).length / 33 : Nat) : Int) = _
  rw [headG_lenK (upTo_len hw hg i) n, Nat.mul_div_cancel _ (by decide)]
 have hx2 : nI (rowLen 33 x) = (m : Int) := by
  show ((x.length / 33 : Nat) : Int) = _
  rw [hx, Nat.mul_div_cancel _ (by decide)]
 have he : ∀ i, i < m → x.getD (i * 33 + 0) 0 :: (List.take 32 (List.drop (i * 33 + (0 + 1)) x) ++ []) = elP x 33 i := by
  intro i hi
  rw [elP_in hx hi, List.append_nil, Nat.add_zero, Nat.zero_add]
  have h1 : i * 33 < x.length := by omega
  rw [List.drop_eq_getElem_cons h1, List.take_succ_cons, List.getD_eq_getElem?_getD, List.getElem?_eq_getElem h1, Option.getD_some]
 intro j
 induction j with
 | zero =>
  intro i h fuel hf
  obtain ⟨f, rfl⟩ : ∃ f, fuel = f + 1 := ⟨fuel - 1, by omega⟩
  show f9_2_st N (f9_2_lp N _ f) _ _ _ _ = _
  unfold f9_2_st
  rw [hx2, ltF (by omega), cond_false, show i = m by omega]
 | succ j ih =>
  intro i h fuel hf
  obtain ⟨f, rfl⟩ : ∃ f, fuel = f + 1 := ⟨fuel - 1, by omega⟩
  show f9_2_st N (f9_2_lp N _ f) _ _ _ _ = _
  unfold f9_2_st
  rw [hr, hx2, ltT (show i < m by omega), ltT (show i < n by omega), ge0, Int.toNat_natCast, wAdd (by omega)]
  dsimp only
  rw [he i (by omega), show Off.at (i * 33 + 0) = Off.at (i * 33) from rfl, upTo_set hw hg (show i < n by omega)]
  simp only [Bool.and_self, cond_true]
  exact ih (i + 1) (by omega) f (by omega)
def L9_0 : LoopFn := mkLF N9_0 f9_0_sh fun _ ls K => match ls with
 | [.i x1, .l x2, .l x3] => bif decide (x1 = 0) && okK x3 33 (x3.length / 33) then K X.normal (fill f9_0_ex1 [.b false, .i (nI (x3.length / 33)), .l x2, .l (mkH (x3.length / 33))]) else none
 | _ => none
def overS (x y : List Int) : List Int := headG (upTo (elP x 33) (elP y 33) (x.length / 33)) (y.length / 33)
def L9_2 : LoopFn := mkLF N9_2 f9_2_sh fun _ ls K => match ls with
 | [.i x1, .l x2, .l x3] => bif decide (x1 = 0) && (okK x2 33 (x2.length / 33) && (okK x3 33 (x3.length / 33) && Nat.ble (x2.length / 33) (x3.length / 33))) then K X.normal (fill f9_2_ex1 [.b false, .i (nI (x2.length / 33)), .l x2, .l (overS x2 x3)]) else none
 | _ => none
theorem L9_0_ok : LoopOk Tryz.prog L9_0 0 B9_0 := by
 refine loopOkF_of (E := E9 0) thOk3 GG0_ok mixed (loopsOk_of (l := []) (by kernel_rfl) trivial) ?_
 intro R ls K r h
 split at h
 ·
  rename_i x1 x2 x3
  refine ⟨x3.length / 33 + 1, ?_⟩
  rw [f9_0_lp_eq]
  cases hc : decide (x1 = 0) && okK x3 33 (x3.length / 33) with
  | true =>
   rw [hc] at h
   rw [Bool.and_eq_true] at hc
   obtain ⟨h1, h2⟩ := okK_iff.1 hc.2
   have := f9_marks (N := 0) (fun y1 y2 y3 y4 => K X.normal (fill f9_0_ex1 [.b y1, .i y2, .l y3, .l y4])) x2 (g := elP x3 33) (elP_len x3 33) h2 (x3.length / 33) 0 (by omega) (x3.length / 33 + 1) (by omega)
   rw [upTo_zero, blk_elP h1] at this
   rw [of_decide_eq_true hc.1]
   exact this.trans h
  | false => rw [hc] at h; cases h
 ·
  cases h
theorem L9_2_ok : LoopOk Tryz.prog L9_2 2 B9_2 := by
 refine loopOkF_of (E := E9 0) thOk3 GG0_ok mixed (loopsOk_of (l := []) (by kernel_rfl) trivial) ?_
 intro R ls K r h
 split at h
 ·
  rename_i x1 x2 x3
  refine ⟨x2.length / 33 + 1, ?_⟩
  rw [f9_2_lp_eq]
  cases hc : decide (x1 = 0) && (okK x2 33 (x2.length / 33) && (okK x3 33 (x3.length / 33) && Nat.ble (x2.length / 33) (x3.length / 33))) with
  | true =>
   rw [hc] at h
   simp only [Bool.and_eq_true] at hc
   obtain ⟨h0, h1, h2, h3⟩ := hc
   obtain ⟨h4, h5⟩ := okK_iff.1 h1
   obtain ⟨h6, h7⟩ := okK_iff.1 h2
   have := f9_copy (N := 0) (fun y1 y2 y3 y4 => K X.normal (fill f9_2_ex1 [.b y1, .i y2, .l y3, .l y4])) (g := elP x3 33) (elP_len x3 33) h4 (Nat.le_of_ble_eq_true h3) h7 (x2.length / 33) 0 (by omega) (x2.length / 33 + 1) (by omega)
   rw [upTo_zero, blk_elP h6] at this
   rw [of_decide_eq_true h0]
   exact this.trans h
  | false => rw [hc] at h; cases h
 ·
  cases h
def I45 : (R : Type) → List DV → (List DV → Option R) → Option R := fun _ ds k => match ds with
 | [.lst (.mix l) 33 xs] => bif cksEq l ck78 && (Nat.ble (rowLen 33 xs * 40) big48 && Nat.ble (rowLen 33 xs) big48) then k [.lst (.mix ck78) 33 xs] else none
 | _ => none
theorem c45 : Contract Tryz.prog 45 { sig := S45, impl := I45 } := by
 refine Contract.refine fun R ds k r h => ⟨_, f45_contract 0 ctxOk_nil, ?_⟩
 unfold I45 at h
 split at h
 ·
  rename_i l xs
  cases hc : cksEq l ck78 with
  | false => rw [hc] at h; cases h
  | true =>
   rw [hc, Bool.true_and] at h
   obtain rfl := cksEq_iff.1 hc
   rw [f45_raw_eq]; exact h
 ·
  cases h
def GG9 : Ctx := (45, { sig := S45, impl := I45 }) :: GG0
theorem GG9_ok : CtxOk Tryz.prog GG9 := ctxOk_cons ok45 rfl c45 GG0_ok
def EG9 : Env := { Θ := Th3, Γ := GG9, K := K9, ν := [], fuel := 0, lp := [(0, L9_0), (2, L9_2)] }
def G9 : FI := { sig := { ps := [], rs := [] }, impl := fun _ ds k => callN EG9 2 61 B9 R9 ds k, kind := .inl 2 }
theorem cG9 : Contract Tryz.prog 9 G9 := inl_contract (E := EG9) thOk3 GG9_ok mixed ok9 (loopsOk_of (l := [(0, B9_0), (2, B9_2)]) (by kernel_rfl) (allOk_cons (L := L9_0) rfl L9_0_ok (allOk_cons (L := L9_2) rfl L9_2_ok trivial)))
def start6 (n : Nat) (s x : List Int) (t : Int) : AS := { n := n, lo := 0, tmps := [(0, va (.own 0)), (1, va (.ints .u8 32 x)), (2, va (.int .i64 t))], items := [(0, .view (.mix ck78) 33 s)] }
def intV (s x : List Int) : List Int := bif decide (idsN (ids33 s) = 0) then sN (valG (pX (P33 s)) (pY (P33 s)) (vS x) (s.length / 33) (s.length / 33)) else zS
def intE (s : List Int) : Int := bif decide (idsN (ids33 s) = 0) then 0 else idsN (ids33 s)
def recV (s : List Int) (t : Int) : List Int :=
 bif decide (thrE t = 0) then (bif decide (((s.length / 33 : Nat) : Int) < t) then zS else bif decide (idsN (ids33 s) = 0) then (bif onB s t.toNat then sN (valG (pX (P33 s)) (pY (P33 s)) 0 t.toNat t.toNat) else zS) else zS) else zS
def recE (s : List Int) (t : Int) : Int :=
 bif decide (thrE t = 0) then (bif decide (((s.length / 33 : Nat) : Int) < t) then 8 else bif decide (idsN (ids33 s) = 0) then (bif onB s t.toNat then 0 else 71) else idsN (ids33 s)) else thrE t
def conV (s : List Int) (t : Int) : Bool :=
 bif decide (thrE t = 0) then (bif decide (((s.length / 33 : Nat) : Int) < 1) then false else bif decide (idsN (ids33 s) = 0) then onB s t.toNat else false) else false
def conE (s : List Int) (t : Int) : Int :=
 bif decide (thrE t = 0) then (bif decide (((s.length / 33 : Nat) : Int) < 1) then 8 else bif decide (idsN (ids33 s) = 0) then 0 else idsN (ids33 s)) else thrE t
def I31m : (R : Type) → List DV → (List DV → Option R) → Option R := fun _ ds k => match ds with
 | [.lst (.mix c) 33 s, .v (.one (.ints .u8 32 x))] => match cksEq c ck78 with
  | true => bif okS s && okB x then k [.v (.one (.ints .u8 32 (intV s x))), .v (.one (.int .i64 (intE s)))] else none
  | false => none
 | _ => none
def I33m : (R : Type) → List DV → (List DV → Option R) → Option R := fun _ ds k => match ds with
 | [.lst (.mix c) 33 s, .v (.one (.int .i64 t))] => match cksEq c ck78 with
  | true => bif okS s then k [.v (.one (.ints .u8 32 (recV s t))), .v (.one (.int .i64 (recE s t)))] else none
  | false => none
 | _ => none
def I35m : (R : Type) → List DV → (List DV → Option R) → Option R := fun _ ds k => match ds with
 | [.lst (.mix c) 33 s, .v (.one (.int .i64 t))] => match cksEq c ck78 with
  | true => bif okS s then k [.v (.one (.bool (conV s t))), .v (.one (.int .i64 (conE s t)))] else none
  | false => none
 | _ => none
theorem m31 {R : Type} {ds : List DV} {k : List DV → Option R} {r : R} (h : I31m R ds k = some r) : I31 R ds k = some r := by
 unfold I31m at h
 split at h
 ·
  split at h
  ·
   rename_i e
   unfold I31
   simp only [e]
   revert h
   unfold intV intE
   cases decide (idsN (ids33 _) = 0) <;> exact id
  ·
   cases h
 ·
  cases h
theorem m33 {R : Type} {ds : List DV} {k : List DV → Option R} {r : R} (h : I33m R ds k = some r) : I33 R ds k = some r := by
 unfold I33m at h
 split at h
 ·
  split at h
  ·
   rename_i e
   unfold I33
   simp only [e]
   revert h
   unfold recV recE
   cases decide (thrE _ = 0)
   ·
    exact id
   ·
    cases decide (((_ : Nat) : Int) < _)
    ·
     cases decide (idsN (ids33 _) = 0)
     ·
      exact id
     ·
      cases onB _ _ <;> exact id
    ·
     exact id
  ·
   cases h
 ·
  cases h
theorem m35 {R : Type} {ds : List DV} {k : List DV → Option R} {r : R} (h : I35m R ds k = some r) : I35 R ds k = some r := by
 unfold I35m at h
 split at h
 ·
  split at h
  ·
   rename_i e
   unfold I35
   simp only [e]
   revert h
   unfold conV conE
   cases decide (thrE _ = 0)
   ·
    exact id
   ·
    cases decide (((_ : Nat) : Int) < 1)
    ·
     cases decide (idsN (ids33 _) = 0) <;> exact id
    ·
     exact id
  ·
   cases h
 ·
  cases h
theorem c31m : Contract Tryz.prog 31 { sig := S31, impl := I31m } := Contract.refine fun R ds k r h => ⟨_, c31, m31 h⟩
theorem c32m : Contract Tryz.prog 32 { sig := S32, impl := I31m } := Contract.refine fun R ds k r h => ⟨_, c32, m31 h⟩
theorem c33m : Contract Tryz.prog 33 { sig := S33, impl := I33m } := Contract.refine fun R ds k r h => ⟨_, c33, m33 h⟩
theorem c34m : Contract Tryz.prog 34 { sig := S34, impl := I33m } := Contract.refine fun R ds k r h => ⟨_, c34, m33 h⟩
theorem c35m : Contract Tryz.prog 35 { sig := S35, impl := I35m } := Contract.refine fun R ds k r h => ⟨_, c35, m35 h⟩
theorem c36m : Contract Tryz.prog 36 { sig := S36, impl := I35m } := Contract.refine fun R ds k r h => ⟨_, c36, m35 h⟩
def GGS : Ctx := (24, { sig := S24, impl := I24 }) :: []
theorem GGS_ok : CtxOk Tryz.prog GGS := ctxOk_cons ok24 rfl c24 ctxOk_nil
def EG14s : Env := { Θ := Th3, Γ := GGS, K := K14, ν := N14, fuel := 5, lp := [] }
def G14s : FI := { sig := { ps := [], rs := [] }, impl := fun _ ds k => callN EG14s 1 393 B14 R14 ds k, kind := .inl 1 }
theorem cG14s : Contract Tryz.prog 14 G14s := inl_contract (E := EG14s) thOk3 GGS_ok mixed ok14 (loopsOk_of (l := [(0, B14_0), (2, B14_2), (4, B14_4), (6, B14_6), (8, B14_8), (10, B14_10), (12, B14_12), (14, B14_14), (16, B14_16), (18, B14_18), (20, B14_20), (22, B14_22), (24, B14_24), (26, B14_26), (28, B14_28)]) (by kernel_rfl) (allOk_skip rfl (allOk_skip rfl (allOk_skip rfl (allOk_skip rfl (allOk_skip rfl (allOk_skip rfl (allOk_skip rfl (allOk_skip rfl (allOk_skip rfl (allOk_skip rfl (allOk_skip rfl (allOk_skip rfl (allOk_skip rfl (allOk_skip rfl (allOk_skip rfl trivial))))))))))))))))
def GE6b : Ctx := (9, G9) :: (13, { sig := S13, impl := I13 }) :: (14, G14s) :: (15, { sig := S15, impl := I15 }) :: (31, { sig := S31, impl := I31m }) :: (32, { sig := S32, impl := I31m }) :: (33, { sig := S33, impl := I33m }) :: (34, { sig := S34, impl := I33m }) :: (35, { sig := S35, impl := I35m }) :: (36, { sig := S36, impl := I35m }) :: []
theorem GE6b_ok : CtxOk Tryz.prog GE6b := ctxOk_cons ok9 rfl cG9 (ctxOk_cons ok13 rfl c13 (ctxOk_cons ok14 rfl cG14s (ctxOk_cons ok15 rfl c15 (ctxOk_cons ok31 rfl c31m (ctxOk_cons ok32 rfl c32m (ctxOk_cons ok33 rfl c33m (ctxOk_cons ok34 rfl c34m (ctxOk_cons ok35 rfl c35m (ctxOk_cons ok36 rfl c36m ctxOk_nil)))))))))
def GE6c : Ctx := (999999, noFI) :: GE6b
theorem GE6c_ok : CtxOk Tryz.prog GE6c := ctxOk_prune GE6b_ok
def f6_raw {R : Type} (N : Nat) (s x : List Int) (t : Int) (k : List DV → Option R) : Option R :=
 let v0 := IntKind.i64.wrap (nI (rowLen 33 s) + 3);
bif decide (0 ≤ v0) && (decide (v0 ≤ v0) && (decide (v0 ≤ 281474976710656) && decide (v0 * 40 ≤ 281474976710656))) then
 bif decide (0 = 0) && okK (zerosOf (mulE v0.toNat 33)) 33 ((zerosOf (mulE v0.toNat 33)).length / 33) then
 bif decide (0 = 0) && (okK s 33 (s.length / 33) && (okK (mkH ((zerosOf (mulE v0.toNat 33)).length / 33)) 33 ((mkH ((zerosOf (mulE v0.toNat 33)).length / 33)).length / 33) && (s.length / 33).ble ((mkH ((zerosOf (mulE v0.toNat 33)).length / 33)).length / 33))) then
 bif cksEq ck78 ck78 && ((rowLen 33 (overS s (mkH ((zerosOf (mulE v0.toNat 33)).length / 33))) * 40).ble big48 && (rowLen 33 (overS s (mkH ((zerosOf (mulE v0.toNat 33)).length / 33)))).ble big48) then
 bif hiOk (some (nI (rowLen 33 s))) (rowLen 33 (overS s (mkH ((zerosOf (mulE v0.toNat 33)).length / 33)))) then
 let v1 := Go.Eng.sub (overS s (mkH ((zerosOf (mulE v0.toNat 33)).length / 33))) (.el 0 33 0) (Go.Eng.subN (hiNat (some (nI (rowLen 33 s))) (rowLen 33 (overS s (mkH ((zerosOf (mulE v0.toNat 33)).length / 33))))) none * 33);
 bif okS v1 && okB x then
 bif okS s && okB x then
 bif okS v1 then
 bif okS s then
 bif okS v1 then
 bif okS s then
 bif decide (intV v1 x = intV s x) then
 let v2 : Bool := bif true then intE v1 == intE s else false;
 bif v2 then
 let v3 : Bool := bif true then decide (recV v1 t = recV s t) else false;
 bif v3 then
 let v4 : Bool := bif true then recE v1 t == recE s t else false;
 bif v4 then
 let v5 : Bool := bif true then conV v1 t == conV s t else false;
 bif v5 then
 let v6 : Bool := bif true then conE v1 t == conE s t else false;
 bif v6 then
 bif decide (overS s (mkH ((zerosOf (mulE v0.toNat 33)).length / 33)) = overS s (mkH ((zerosOf (mulE v0.toNat 33)).length / 33))) && (overS s (mkH ((zerosOf (mulE v0.toNat 33)).length / 33))).length.ble 1073741824 then
 let v7 : Bool := bif true then true else false;
 k [.v (.one (.bool v7))]
 else none
 else none
 else none
 else none
 else none
 else none
 else none
 else none
 else none
 else none
 else none
 else none
 else none
 else none
 else none
 else none
 else none
else none
def E6 (N : Nat) : Env := { Θ := Th, Γ := GE6c, K := K6, ν := N6, fuel := 0, lp := [] }
theorem f6_loops (N : Nat) (hΓ : CtxOk Tryz.prog GE6c) : LoopsOk Tryz.prog (E6 N).lp B6 := loopsOk_of (l := []) (by kernel_rfl) trivial
theorem f6_raw_eq {R : Type} (N : Nat) (s x : List Int) (t : Int) (k : List DV → Option R) : exec (E6 N) B6 (start6 96 s x t) (retK Th { ps := [], rs := [.val] } [] R6 k) = f6_raw N s x t k := by kernel_rfl
set_option linter.unusedVariables false
set_option linter.unusedVariables false
theorem mkH_len (n : Nat) : (mkH n).length = n * 33 := headG_lenK mHs_len n
theorem overS_len {a : List Int} {n m : Nat} (ha : a.length = n * 33) : (overS a (mkH m)).length = m * 33 := by
 unfold overS
 rw [mkH_len, Nat.mul_div_cancel _ (by decide)]
 exact headG_lenK (upTo_len (elP_len a 33) (elP_len _ 33) _) m
theorem overS_take {a : List Int} {n m : Nat} (ha : a.length = n * 33) (h : n ≤ m) : List.take (n * 33) (overS a (mkH m)) = a := by
 unfold overS
 rw [mkH_len, ha, Nat.mul_div_cancel _ (by decide), Nat.mul_div_cancel _ (by decide)]
 have e : ∀ d, ∃ C, headG (upTo (elP a 33) (elP (mkH m) 33) n) (n + d) = headG (upTo (elP a 33) (elP (mkH m) 33) n) n ++ C := by
  intro d
  induction d with
  | zero => exact ⟨[], by rw [List.append_nil]; rfl⟩
  | succ d ih =>
   obtain ⟨C, hC⟩ := ih
   refine ⟨C ++ upTo (elP a 33) (elP (mkH m) 33) n (n + d), ?_⟩
   show headG _ (n + d) ++ _ = _
   rw [hC, List.append_assoc]; rfl
 obtain ⟨C, hC⟩ := e (m - n)
 rw [show n + (m - n) = m by omega] at hC
 rw [hC, upTo_all, blk_elP ha, List.take_left' ha]
theorem f6_true {s x : List Int} {t : Int} {n : Nat} (hs : okS s = true) (hx : okB x = true) (hl : s.length = n * 33) (hn : n ≤ 1048576) :
  f6_raw 0 s x t some = some [.v (.one (.bool true))] := by
 have ea : s.length / 33 = n := by omega
 have ra : nI (rowLen 33 s) = (n : Int) := by show ((s.length / 33 : Nat) : Int) = _; rw [ea]
 have w1 : IntKind.i64.wrap ((n : Int) + 3) = ((n + 3 : Nat) : Int) := by rw [show (n : Int) + 3 = ((n + 3 : Nat) : Int) by omega]; exact wi64 (by omega)
 have z1 : (zerosOf (mulE (Int.toNat ((n + 3 : Nat) : Int)) 33)).length = (n + 3) * 33 := zeros_len _
 have d1 : (n + 3) * 33 / 33 = n + 3 := by omega
 have hO := overS_len (a := s) (m := n + 3) hl
 have hOr : rowLen 33 (overS s (mkH (n + 3))) = n + 3 := by show (overS s (mkH (n + 3))).length / 33 = _; rw [hO, d1]
 have hOt := overS_take (m := n + 3) hl (by omega)
 have b1 : (decide ((0 : Int) ≤ ((n + 3 : Nat) : Int)) && (decide (((n + 3 : Nat) : Int) ≤ ((n + 3 : Nat) : Int)) && (decide (((n + 3 : Nat) : Int) ≤ 281474976710656) && decide (((n + 3 : Nat) : Int) * 40 ≤ 281474976710656)))) = true := by
  simp only [Bool.and_eq_true, decide_eq_true_eq]; omega
 have k1 : okK (zerosOf (mulE (Int.toNat ((n + 3 : Nat) : Int)) 33)) 33 (n + 3) = true := okK_iff.2 ⟨z1, by omega⟩
 have k2 : okK s 33 n = true := okK_iff.2 ⟨hl, by omega⟩
 have k3 : okK (mkH (n + 3)) 33 (n + 3) = true := okK_iff.2 ⟨mkH_len _, by omega⟩
 have h1 : hiOk (some (n : Int)) (n + 3) = true := by
  show (decide ((0 : Int) ≤ (n : Int)) && decide ((n : Int) ≤ ((n + 3 : Nat) : Int))) = true
  rw [decide_eq_true (by omega), decide_eq_true (by omega)]; rfl
 have c1 : Go.Eng.sub (overS s (mkH (n + 3))) (Off.el 0 33 0) (Go.Eng.subN (hiNat (some (n : Int)) (n + 3)) none * 33) = s := by
  show List.take (n * 33) (List.drop (0 * 33 + 0) (overS s (mkH (n + 3)))) = s
  rw [Nat.zero_mul, Nat.zero_add, List.drop_zero]; exact hOt
 have s1 : (Nat.ble ((n + 3) * 40) big48 && Nat.ble (n + 3) big48) = true := by
  rw [Bool.and_eq_true, Nat.ble_eq, Nat.ble_eq]; unfold big48; omega
 have ck : cksEq ck78 ck78 = true := cksEq_iff.2 rfl
 have t1 : Nat.ble n (n + 3) = true := Nat.ble_eq_true_of_le (by omega)
 have t5 : Nat.ble ((n + 3) * 33) 1073741824 = true := Nat.ble_eq_true_of_le (by omega)
 have mk1 : (mkH (n + 3)).length / 33 = n + 3 := by rw [mkH_len, d1]
 unfold f6_raw
 simp only [ra, w1, b1, z1, d1, ea, k1, k2, mk1, k3, t1, hOr, ck, s1, h1, c1, hs, hx, hO, t5, decide_true, Bool.and_self, cond_true, beq_self_eq_true]
end
end Go.Proofs.YtogcijgklnfjjaaGreat
namespace Go.Proofs.YtogcijgklnfjjaaGreat
noncomputable section
open Go Go.Eng Go.ChangeShapes Go.WideShapes Go.RowKit Go.ChangeAt
set_option maxRecDepth 100000
set_option linter.unusedVariables false
theorem contract6 (H : Type) (enc : TypeId × Value → H) (W : World) (base : Nat) (args : Array Value) (ds gs : List (DataW H)) (before : List MemPlace)
  (hval : ∀ (j : Nat) t v, Tryz.f6.params[j]? = some t → args[j]? = some v → Value.okWide Tryz.prog W .any base t v)
  (hW : DataW.Whole enc Tryz.prog Tryz.f6.params.toList Rows.shamirRecoversSpec.vars false W args.toList ds gs before) (hk : Rows.uptoSmall H (ds ++ gs) = true) :
  Calls Tryz.prog 6 args W fun e W' => ∃ v, e = .returned v ∧ Rows.shamirRecoversSpec.post enc Tryz.prog Tryz.f6 false true false false W args v W' := by
 have hW' := hW
 obtain ⟨p, q, hA, hV, rfl, hfz, hnd⟩ := hW
 obtain ⟨rfl, rfl⟩ := trodVars_none hV
 rw [Tryz.params6] at hA hval
 obtain ⟨v0, vs0, d0, ds0, p0, q0, hargs, rfl, rfl, h0, r0⟩ := trodAll_cons hA
 obtain ⟨v1, vs1, d1, ds1, p1, q1, rfl, rfl, rfl, h1, r1⟩ := trodAll_cons r0
 obtain ⟨v2, vs2, d2, ds2, p2, q2, rfl, rfl, rfl, h2, r2⟩ := trodAll_cons r1
 obtain ⟨rfl, rfl, rfl⟩ := trodAll_nil r2
 obtain rfl : args = #[v0, v1, v2] := by cases args; simp_all
 have hb := bulk_bound hk
 simp only [List.append_nil, Rows.uptoBulkAll, Nat.add_zero] at hb
 obtain ⟨A0, n0, c0, rfl⟩ := okWide_slice Tryz.underlying22 (hval 0 22 v0 rfl rfl)
 obtain ⟨f0, h0⟩ := h0
 obtain ⟨x0, len0, cap0, Ad0, loc0, o01, o02, l0, o04, o05, o06, w0, o08⟩ := open_viewM (l := ck78) (es := 33) Tryz.underlying22 (by omega) (elSh H enc) h0
 have b0 : len0 ≤ Rows.uptoBulk d0 := bulk_slice o08
 obtain ⟨x1, rfl, l1, w1⟩ := open_arr Tryz.underlying54 Tryz.underlying5 (by kernel_rfl) (by kernel_rfl) (hval 1 54 v1 rfl rfl) h1
 obtain ⟨x2, rfl, rfl, rfl, w2⟩ := open_int Tryz.underlying3 (hval 2 3 v2 rfl rfl) h2
 have hs : Sim W { blk := fun _ => False, loc := ({ loc := locOf [(0, loc0)], tot := fun _ => 0 } : Rho).loc, tot := ({ loc := locOf [(0, loc0)], tot := fun _ => 0 } : Rho).tot, sh := (start6 96 x0 x1 x2).S, out := ({ loc := locOf [(0, loc0)], tot := fun _ => 0 } : Rho).out } ({ loc := locOf [(0, loc0)], tot := fun _ => 0 } : Rho) (start6 96 x0 x1 x2) { tmps := #[.slice A0 n0 c0, .agg (x1.map (Value.int .u8)).toArray, .int .i64 x2] ++ Array.replicate (96 - 3) undef, defers := [] } W := by
  refine sim_startD (s0 := start6 96 x0 x1 x2) (ρ := { loc := locOf [(0, loc0)], tot := fun _ => 0 }) (args := #[.slice A0 n0 c0, .agg (x1.map (Value.int .u8)).toArray, .int .i64 x2]) (n := 96) (avs := [.s (.one (.own 0)), .s (.one (.ints .u8 32 x1)), .s (.one (.int .i64 x2))]) rfl (by simp) rfl ?_ ?_ ?_ (fun b hb => hb.elim) ⟨(show RelAt ({ loc := locOf [(0, loc0)], tot := fun _ => 0 } : Rho) (start6 96 x0 x1 x2).S (.own 0) [Value.slice A0 n0 c0] from rel_own rfl o01 o02 l0 o05 (by omega) rfl), ⟨rfl, l1⟩, rfl, trivial⟩
  ·
   simp [start6, Nodup', putNames]
  ·
   intro j it hi
   simp only [start6, AS.I, findI_cons] at hi
   split at hi
   ·
    rename_i hj; subst hj; injection hi with hi; subst hi
    exact ⟨rfl, ⟨by omega, rfl⟩, ⟨len0, l0⟩, o04⟩
   ·
    simp [findI] at hi
  ·
   intro j p hp
   simp only [locOf] at hp
   split at hp
   ·
    exact o06 p hp
   ·
    cases hp
 have he := f6_true (t := x2) (okS_row (by omega) l0 w0) (okB_row l1 w1) l0 (by omega)
 rw [← f6_raw_eq] at he
 refine (law_calls thOk GE6c_ok mixed ok6 (f6_loops _ GE6c_ok) (fun _ => id) hs he).mono fun e W' ⟨h1, h2, h3, h4⟩ => ?_
 exact ⟨_, h1, post_of_law laidOut (by kernel_rfl) Tryz.underlying4 rfl (by rw [Tryz.params6]; intro t ht; simp only [List.mem_cons, List.not_mem_nil, or_false] at ht; rcases ht with rfl | rfl | rfl <;> exact ⟨by kernel_rfl, by decide +kernel⟩) ⟨rfl, rfl, rfl⟩ hW' h2 h3 h4⟩
theorem lifted6 (os : Os) (started : os.Started) (H : Type) (enc : TypeId × Value → H) (F : Stop.Interp) :
  ReturnsInHanded {} Tryz.checked os 6 .any ((Rows.OpenSpec.upto Rows.shamirRecoversSpec).pre6 enc Tryz.prog Tryz.f6 Rows.shamirRecoversUptoRow.domain false) (((Rows.OpenSpec.upto Rows.shamirRecoversSpec).at F).post enc Tryz.prog Tryz.f6 false true false false) := by
 refine returnsInHanded_of_cond (C := Tryz.checked) (s := Rows.OpenSpec.upto Rows.shamirRecoversSpec) (k := Rows.uptoSmall) rfl own0 started (by kernel_rfl) Tryz.func6
  (OpenSpec.witness (enc := enc) (C := Tryz.checked) (s := Rows.OpenSpec.upto Rows.shamirRecoversSpec) (k := Rows.uptoSmall) rfl false ⟨#[], #[.slice none 0 0, .agg (Array.mk (List.replicate 32 (Value.int .u8 0))), .int .i64 0], []⟩ 8 (by kernel_rfl) (by kernel_rfl) (by kernel_rfl)
   (x := ([.nil, .agg (List.replicate 32 (.lit (.int .u8 0))), .lit (.int .i64 0)], [], [])) (by kernel_rfl) rfl (by kernel_rfl)) ?_
 intro W base args ds gs before hval hW _ hk _
 exact contract6 H enc W base args ds gs before hval hW hk
theorem over6 : Rows.shamirRecoversUptoRow.holds Tryz.pinned (Rows.OpenSpec.upto Rows.shamirRecoversSpec) :=
 OpenClaim.holds_of_cond 6 Tryz.f6 rfl rfl rfl rfl rfl rfl rfl ⟨rfl, rfl, rfl, rfl, rfl⟩ rfl rfl rfl rfl rfl (by kernel_rfl) Tryz.func6 (by kernel_rfl)
  (of_decide_eq_true (by kernel_rfl)) (by unfold Func.isWrapper; first | (rw [if_pos (by decide +kernel)]; kernel_rfl) | (rw [if_neg (by decide +kernel)]; exact ⟨rfl, rfl⟩))
  (fun os started H enc _ F => lifted6 os started H enc F)
theorem shamirRecovers_holds : Rows.ShamirRecoversUptoSaid := over6
end
end Go.Proofs.YtogcijgklnfjjaaGreat
#print axioms Go.Proofs.YtogcijgklnfjjaaGreat.shamirRecovers_holds
