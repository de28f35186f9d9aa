/- A part of the proof: ShamirEvals: for any polynomial, place, identifier and identifiers whose data stay within 1,048,576: Eval, At and Split answer as the document. -/
import Derived.Test.YtogcijgklnfjjaaGreatShamirEvalsUptoSaidT2
import Derived.Test.YtogcijgklnfjjaaGreatProg
import Derived.KernelRfl
import Derived.Laws.Externs
set_option linter.unusedVariables false
set_option linter.unusedSimpArgs false

namespace Go.Proofs.YtogcijgklnfjjaaGreat
open Go Go.Eng

set_option maxRecDepth 100000

def Th : Types := [(3, ⟨.int .i64, 1, 8, [.int .i64 0]⟩),
  (4, ⟨.bool, 1, 1, [.bool false]⟩),
  (5, ⟨.int .u8, 1, 1, [.int .u8 0]⟩),
  (9, ⟨.str, 1, 16, [.dead]⟩),
  (22, ⟨.slice 78, 1, 24, [.nils]⟩),
  (23, ⟨.slice 118, 1, 24, [.nils]⟩),
  (24, ⟨.slice 41, 1, 24, [.nils]⟩),
  (25, ⟨.slice 120, 1, 24, [.nils]⟩),
  (26, ⟨.slice 122, 1, 24, [.nils]⟩),
  (27, ⟨.slice 40, 1, 24, [.nils]⟩),
  (28, ⟨.slice 124, 1, 24, [.nils]⟩),
  (29, ⟨.slice 126, 1, 24, [.nils]⟩),
  (30, ⟨.slice 128, 1, 24, [.nils]⟩),
  (31, ⟨.slice 22, 1, 24, [.nils]⟩),
  (32, ⟨.slice 130, 1, 24, [.nils]⟩),
  (33, ⟨.slice 132, 1, 24, [.nils]⟩),
  (34, ⟨.slice 134, 1, 24, [.nils]⟩),
  (35, ⟨.slice 136, 1, 24, [.nils]⟩),
  (36, ⟨.slice 138, 1, 24, [.nils]⟩),
  (37, ⟨.slice 140, 1, 24, [.nils]⟩),
  (39, ⟨.struct [(23, 0), (23, 1), (24, 2), (24, 3), (25, 4), (25, 5), (26, 6), (26, 7), (27, 8), (27, 9), (28, 10), (28, 11), (29, 12), (29, 13), (30, 14), (30, 15), (31, 16), (31, 17), (32, 18), (32, 19), (33, 20), (33, 21), (34, 22), (34, 23), (35, 24), (35, 25), (36, 26), (36, 27), (37, 28), (37, 29)], 30, 720, [.nils, .nils, .nils, .nils, .nils, .nils, .nils, .nils, .nils, .nils, .nils, .nils, .nils, .nils, .nils, .nils, .nils, .nils, .nils, .nils, .nils, .nils, .nils, .nils, .nils, .nils, .nils, .nils, .nils, .nils]⟩),
  (40, ⟨.slice 54, 1, 24, [.nils]⟩),
  (41, ⟨.slice 3, 1, 24, [.nils]⟩),
  (42, ⟨.int .i64, 1, 8, [.int .i64 0]⟩),
  (54, ⟨.array 32 5, 32, 32, [.ints .u8 32 (List.replicate 32 0)]⟩),
  (68, ⟨.slice 105, 1, 24, [.nils]⟩),
  (78, ⟨.struct [(3, 0), (54, 1)], 33, 40, [.int .i64 0, .ints .u8 32 (List.replicate 32 0)]⟩),
  (105, ⟨.struct [(54, 0), (54, 32)], 64, 64, [.ints .u8 32 (List.replicate 32 0), .ints .u8 32 (List.replicate 32 0)]⟩),
  (118, ⟨.slice 5, 1, 24, [.nils]⟩),
  (120, ⟨.slice 174, 1, 24, [.nils]⟩),
  (122, ⟨.slice 179, 1, 24, [.nils]⟩),
  (124, ⟨.slice 180, 1, 24, [.nils]⟩),
  (126, ⟨.slice 181, 1, 24, [.nils]⟩),
  (128, ⟨.slice 182, 1, 24, [.nils]⟩),
  (130, ⟨.slice 183, 1, 24, [.nils]⟩),
  (132, ⟨.slice 184, 1, 24, [.nils]⟩),
  (134, ⟨.slice 186, 1, 24, [.nils]⟩),
  (136, ⟨.slice 188, 1, 24, [.nils]⟩),
  (138, ⟨.slice 190, 1, 24, [.nils]⟩),
  (140, ⟨.slice 192, 1, 24, [.nils]⟩),
  (149, ⟨.map 54 3, 1, 8, [.dead]⟩),
  (165, ⟨.int .u64, 1, 8, [.int .u64 0]⟩),
  (167, ⟨.array 4 165, 4, 32, [.ints .u64 4 (List.replicate 4 0)]⟩),
  (172, ⟨.int .u64, 1, 8, [.int .u64 0]⟩),
  (174, ⟨.int .u32, 1, 4, [.int .u32 0]⟩),
  (176, ⟨.array 8 174, 8, 32, [.ints .u32 8 (List.replicate 8 0)]⟩),
  (179, ⟨.array 32 5, 32, 32, [.ints .u8 32 (List.replicate 32 0)]⟩),
  (180, ⟨.array 32 5, 32, 32, [.ints .u8 32 (List.replicate 32 0)]⟩),
  (181, ⟨.array 32 5, 32, 32, [.ints .u8 32 (List.replicate 32 0)]⟩),
  (182, ⟨.array 32 5, 32, 32, [.ints .u8 32 (List.replicate 32 0)]⟩),
  (183, ⟨.struct [(3, 0), (54, 1)], 33, 40, [.int .i64 0, .ints .u8 32 (List.replicate 32 0)]⟩),
  (184, ⟨.struct [(3, 0), (54, 1)], 33, 40, [.int .i64 0, .ints .u8 32 (List.replicate 32 0)]⟩),
  (186, ⟨.struct [(3, 0), (180, 1), (180, 33)], 65, 72, [.int .i64 0, .ints .u8 32 (List.replicate 32 0), .ints .u8 32 (List.replicate 32 0)]⟩),
  (188, ⟨.struct [(3, 0), (180, 1)], 33, 40, [.int .i64 0, .ints .u8 32 (List.replicate 32 0)]⟩),
  (190, ⟨.struct [(3, 0), (3, 1), (54, 2)], 34, 48, [.int .i64 0, .int .i64 0, .ints .u8 32 (List.replicate 32 0)]⟩),
  (192, ⟨.struct [(3, 0), (3, 1)], 2, 16, [.int .i64 0, .int .i64 0]⟩),
  (193, ⟨.map 3 3, 1, 8, [.dead]⟩),
  (247, ⟨.int .i64, 1, 8, [.int .i64 0]⟩),
  (272, ⟨.array 6 165, 6, 48, [.ints .u64 6 (List.replicate 6 0)]⟩)]

theorem thOk : TypesOk Tryz.prog Th := tysB_ok (by kernel_rfl)

theorem mixed : Tryz.prog.follows .mixedOrders = true := by kernel_rfl

def ck78 : List CK := [.int .i64] ++ List.replicate 32 (.int .u8)
def ck105 : List CK := List.replicate 64 (.int .u8)
noncomputable def B4 : Code := (Tryz.f4.body.getD .skip)
def R4 : List ResultVar := [.tmp 8]
def K4 : List Nat := [0, 2, 3, 5, 8, 9, 10, 11, 12, 13, 14, 15, 16, 17, 18]
def N4 : Nrms := []
theorem ok4 : FnOk Tryz.prog 4 Tryz.f4 81 B4 R4 := ⟨by kernel_rfl, by kernel_rfl, by kernel_rfl, by kernel_rfl, by decide +kernel⟩

noncomputable def B6 : Code := (Tryz.f6.body.getD .skip)
noncomputable def B8 : Code := (Tryz.f8.body.getD .skip)
def S8 : Sig := { ps := [.view (.mix ck78) 33, .val], rs := [.fresh (.one .u8) 32, .fresh (.one .i64) 1, .val] }
def R8 : List ResultVar := [.tmp 4, .tmp 5, .tmp 6]
def K8 : List Nat := [0, 1, 4, 5, 6, 7, 8, 9, 10, 11, 12, 13, 14, 23, 38, 39, 40, 41, 42, 54, 67]
noncomputable def B8_0 : Code := bodyIn 0 (loopsIn B8)
theorem ok8 : FnOk Tryz.prog 8 Tryz.f8 72 B8 R8 := ⟨by kernel_rfl, by kernel_rfl, by kernel_rfl, by kernel_rfl, by decide +kernel⟩

noncomputable def B11 : Code := (Tryz.f11.body.getD .skip)
def S11 : Sig := { ps := [.view (.one .u8) 32, .view (.one .u8) 32], rs := [.val] }
def R11 : List ResultVar := [.tmp 4]
def K11 : List Nat := [0, 1, 4, 5, 10, 14, 25]
def N11_0 : Nrm := { slots := [.tmp 0, .tmp 1, .tmp 5], items := [0, 1] }
noncomputable def B11_0 : Code := bodyIn 0 (loopsIn B11)
def N11 : Nrms := [(0, N11_0)]
theorem ok11 : FnOk Tryz.prog 11 Tryz.f11 26 B11 R11 := ⟨by kernel_rfl, by kernel_rfl, by kernel_rfl, by kernel_rfl, by decide +kernel⟩

noncomputable def B12 : Code := (Tryz.f12.body.getD .skip)
def S12 : Sig := { ps := [.view (.one .i64) 1, .view (.one .i64) 1], rs := [.val] }
def R12 : List ResultVar := [.tmp 4]
def K12 : List Nat := [0, 1, 4, 5, 10, 14, 25]
def N12_0 : Nrm := { slots := [.tmp 0, .tmp 1, .tmp 5], items := [0, 1] }
noncomputable def B12_0 : Code := bodyIn 0 (loopsIn B12)
def N12 : Nrms := [(0, N12_0)]
theorem ok12 : FnOk Tryz.prog 12 Tryz.f12 26 B12 R12 := ⟨by kernel_rfl, by kernel_rfl, by kernel_rfl, by kernel_rfl, by decide +kernel⟩

noncomputable def B13 : Code := (Tryz.f13.body.getD .skip)
def S13 : Sig := { ps := [.val], rs := [.val] }
def R13 : List ResultVar := [.tmp 2]
def K13 : List Nat := [0, 2]
def N13 : Nrms := []
theorem ok13 : FnOk Tryz.prog 13 Tryz.f13 4 B13 R13 := ⟨by kernel_rfl, by kernel_rfl, by kernel_rfl, by kernel_rfl, by decide +kernel⟩

noncomputable def B15 : Code := (Tryz.f15.body.getD .skip)
def S15 : Sig := { ps := [], rs := [.val] }
def R15 : List ResultVar := [.tmp 0]
def K15 : List Nat := [0, 1, 2, 3, 4, 5, 6, 7, 46]
theorem ok15 : FnOk Tryz.prog 15 Tryz.f15 88 B15 R15 := ⟨by kernel_rfl, by kernel_rfl, by kernel_rfl, by kernel_rfl, by decide +kernel⟩

noncomputable def B17 : Code := (Tryz.f17.body.getD .skip)
def S17 : Sig := { ps := [.view (.one .u8) 32, .val], rs := [.val, .val] }
def R17 : List ResultVar := [.cell 4 54, .tmp 5]
def K17 : List Nat := [0, 1, 4, 5, 8]
def N17 : Nrms := []
theorem ok17 : FnOk Tryz.prog 17 Tryz.f17 14 B17 R17 := ⟨by kernel_rfl, by kernel_rfl, by kernel_rfl, by kernel_rfl, by decide +kernel⟩

noncomputable def B18 : Code := (Tryz.f18.body.getD .skip)
def S18 : Sig := { ps := [.view (.one .u8) 32, .val], rs := [.val, .val] }
def R18 : List ResultVar := [.cell 4 54, .tmp 5]
def K18 : List Nat := [0, 1, 4, 5, 11]
def N18 : Nrms := []
theorem ok18 : FnOk Tryz.prog 18 Tryz.f18 17 B18 R18 := ⟨by kernel_rfl, by kernel_rfl, by kernel_rfl, by kernel_rfl, by decide +kernel⟩

noncomputable def B19 : Code := (Tryz.f19.body.getD .skip)
def S19 : Sig := { ps := [.view (.one .u8) 32, .view (.one .i64) 1], rs := [.fresh (.mix ck78) 33, .val] }
def R19 : List ResultVar := [.tmp 4, .tmp 5]
def K19 : List Nat := [0, 1, 4, 5, 6, 7, 9, 13, 15, 16, 17, 18]
def N19_0 : Nrm := { slots := [.tmp 0, .row 7 1000007 (.mix ck78) 33, .tmp 15, .tmp 16, .tmp 17], items := [0, 1] }
noncomputable def B19_0 : Code := bodyIn 0 (loopsIn B19)
def N19 : Nrms := [(0, N19_0)]
theorem ok19 : FnOk Tryz.prog 19 Tryz.f19 32 B19 R19 := ⟨by kernel_rfl, by kernel_rfl, by kernel_rfl, by kernel_rfl, by decide +kernel⟩

noncomputable def B21 : Code := (Tryz.f21.body.getD .skip)
def S21 : Sig := { ps := [.view (.one .u8) 32, .view (.one .i64) 1], rs := [.fresh (.mix ck78) 33, .val] }
def R21 : List ResultVar := [.tmp 4, .tmp 5]
def K21 : List Nat := [0, 1, 4, 5, 6, 7, 8, 12, 17]
def N21_0 : Nrm := { slots := [.tmp 0, .tmp 1, .row 7 1000007 (.mix ck78) 33, .tmp 8], items := [0, 1] }
noncomputable def B21_0 : Code := bodyIn 0 (loopsIn B21)
def N21 : Nrms := [(0, N21_0)]
theorem ok21 : FnOk Tryz.prog 21 Tryz.f21 36 B21 R21 := ⟨by kernel_rfl, by kernel_rfl, by kernel_rfl, by kernel_rfl, by decide +kernel⟩

noncomputable def B22 : Code := (Tryz.f22.body.getD .skip)
def S22 : Sig := { ps := [.view (.one .u8) 32, .val], rs := [.val] }
def R22 : List ResultVar := [.cell 4 54]
def K22 : List Nat := [0, 3, 4, 5, 6, 11]
def N22_0 : Nrm := { slots := [.tmp 0, .tmp 3, .tmp 4, .tmp 5, .tmp 6], items := [0, 3, 4, 5] }
noncomputable def B22_0 : Code := bodyIn 0 (loopsIn B22)
def N22 : Nrms := [(0, N22_0)]
theorem ok22 : FnOk Tryz.prog 22 Tryz.f22 22 B22 R22 := ⟨by kernel_rfl, by kernel_rfl, by kernel_rfl, by kernel_rfl, by decide +kernel⟩

noncomputable def B23 : Code := (Tryz.f23.body.getD .skip)
def S23 : Sig := { ps := [.view (.one .u8) 32, .val], rs := [.val] }
def R23 : List ResultVar := [.cell 4 54]
def K23 : List Nat := [0, 3, 4, 5, 6, 11]
def N23_0 : Nrm := { slots := [.tmp 0, .tmp 3, .tmp 4, .tmp 5, .tmp 6], items := [0, 3, 4, 5] }
noncomputable def B23_0 : Code := bodyIn 0 (loopsIn B23)
def N23 : Nrms := [(0, N23_0)]
theorem ok23 : FnOk Tryz.prog 23 Tryz.f23 22 B23 R23 := ⟨by kernel_rfl, by kernel_rfl, by kernel_rfl, by kernel_rfl, by decide +kernel⟩

noncomputable def B24 : Code := (Tryz.f24.body.getD .skip)
def S24 : Sig := { ps := [.view (.mix ck78) 33, .view (.mix ck78) 33], rs := [.val] }
def R24 : List ResultVar := [.tmp 4]
def K24 : List Nat := [0, 1, 4, 5, 10, 14, 25]
def N24_0 : Nrm := { slots := [.tmp 0, .tmp 1, .tmp 5], items := [0, 1] }
noncomputable def B24_0 : Code := bodyIn 0 (loopsIn B24)
def N24 : Nrms := [(0, N24_0)]
theorem ok24 : FnOk Tryz.prog 24 Tryz.f24 26 B24 R24 := ⟨by kernel_rfl, by kernel_rfl, by kernel_rfl, by kernel_rfl, by decide +kernel⟩

noncomputable def B26 : Code := (Tryz.f26.body.getD .skip)
def S26 : Sig := { ps := [.view (.mix ck105) 64], rs := [.fresh (.one .u8) 32, .val] }
def R26 : List ResultVar := [.tmp 2, .tmp 3]
def K26 : List Nat := [0, 2, 3, 4, 5, 6, 7, 8, 9, 10, 11, 12, 13, 14, 16, 17, 18, 26, 28, 29, 30, 31, 42, 52, 53, 54, 55, 69, 76, 116, 122]
noncomputable def B26_10 : Code := bodyIn 10 (loopsIn B26)
noncomputable def B26_8 : Code := bodyIn 8 (loopsIn B26)
noncomputable def B26_6 : Code := bodyIn 6 (loopsIn B26)
noncomputable def B26_4 : Code := bodyIn 4 (loopsIn B26)
noncomputable def B26_2 : Code := bodyIn 2 (loopsIn B26)
noncomputable def B26_0 : Code := bodyIn 0 (loopsIn B26)
theorem ok26 : FnOk Tryz.prog 26 Tryz.f26 161 B26 R26 := ⟨by kernel_rfl, by kernel_rfl, by kernel_rfl, by kernel_rfl, by decide +kernel⟩

noncomputable def B33 : Code := (Tryz.f33.body.getD .skip)
def S33 : Sig := { ps := [.view (.mix ck78) 33, .val], rs := [.val, .val] }
def R33 : List ResultVar := [.cell 4 54, .tmp 5]
def K33 : List Nat := [0, 1, 4, 5, 6, 7, 16, 22]
theorem ok33 : FnOk Tryz.prog 33 Tryz.f33 29 B33 R33 := ⟨by kernel_rfl, by kernel_rfl, by kernel_rfl, by kernel_rfl, by decide +kernel⟩

noncomputable def B40 : Code := (Tryz.f40.body.getD .skip)
def S40 : Sig := { ps := [.view (.mix ck78) 33, .val, .val], rs := [.fresh (.mix ck105) 64, .val] }
def R40 : List ResultVar := [.tmp 6, .tmp 7]
def K40 : List Nat := [0, 1, 2, 6, 7, 8, 9, 10, 14, 19]
theorem ok40 : FnOk Tryz.prog 40 Tryz.f40 28 B40 R40 := ⟨by kernel_rfl, by kernel_rfl, by kernel_rfl, by kernel_rfl, by decide +kernel⟩

noncomputable def B41 : Code := (Tryz.f41.body.getD .skip)
def S41 : Sig := { ps := [.view (.mix ck105) 64, .val, .val], rs := [.fresh (.one .u8) 32, .val] }
def R41 : List ResultVar := [.tmp 6, .tmp 7]
def K41 : List Nat := [0, 1, 2, 6, 7, 8, 9, 11, 12, 13, 14, 15, 16, 17, 18, 23, 24, 25, 26, 35, 36, 37, 45, 60, 85]
noncomputable def B41_2 : Code := bodyIn 2 (loopsIn B41)
noncomputable def B41_0 : Code := bodyIn 0 (loopsIn B41)
theorem ok41 : FnOk Tryz.prog 41 Tryz.f41 106 B41 R41 := ⟨by kernel_rfl, by kernel_rfl, by kernel_rfl, by kernel_rfl, by decide +kernel⟩

noncomputable def B42 : Code := (Tryz.f42.body.getD .skip)
def S42 : Sig := { ps := [.val, .val], rs := [.val] }
def R42 : List ResultVar := [.cell 4 54]
def K42 : List Nat := [2, 3, 4]
def N42 : Nrms := []
theorem ok42 : FnOk Tryz.prog 42 Tryz.f42 11 B42 R42 := ⟨by kernel_rfl, by kernel_rfl, by kernel_rfl, by kernel_rfl, by decide +kernel⟩

noncomputable def B43 : Code := (Tryz.f43.body.getD .skip)
def R43 : List ResultVar := []
def K43 : List Nat := [0, 2]
theorem ok43 : FnOk Tryz.prog 43 Tryz.f43 11 B43 R43 := ⟨by kernel_rfl, by kernel_rfl, by kernel_rfl, by kernel_rfl, by decide +kernel⟩

noncomputable def B44 : Code := (Tryz.f44.body.getD .skip)
def S44 : Sig := { ps := [.val, .val], rs := [.val] }
def R44 : List ResultVar := [.cell 4 78]
def K44 : List Nat := [0, 1, 4]
def N44 : Nrms := []
theorem ok44 : FnOk Tryz.prog 44 Tryz.f44 11 B44 R44 := ⟨by kernel_rfl, by kernel_rfl, by kernel_rfl, by kernel_rfl, by decide +kernel⟩

noncomputable def B51 : Code := (Tryz.f51.body.getD .skip)
def S51 : Sig := { ps := [.val], rs := [.val] }
def R51 : List ResultVar := [.tmp 2]
def K51 : List Nat := [1, 2]
def N51 : Nrms := []
theorem ok51 : FnOk Tryz.prog 51 Tryz.f51 7 B51 R51 := ⟨by kernel_rfl, by kernel_rfl, by kernel_rfl, by kernel_rfl, by decide +kernel⟩

noncomputable def B65 : Code := (Tryz.f65.body.getD .skip)
def S65 : Sig := { ps := [.val, .val], rs := [.val] }
def R65 : List ResultVar := [.cell 4 54]
def K65 : List Nat := [0, 1, 4]
def N65 : Nrms := []
theorem ok65 : FnOk Tryz.prog 65 Tryz.f65 16 B65 R65 := ⟨by kernel_rfl, by kernel_rfl, by kernel_rfl, by kernel_rfl, by decide +kernel⟩

noncomputable def B66 : Code := (Tryz.f66.body.getD .skip)
def S66 : Sig := { ps := [.view (.one .u8) 32], rs := [.fresh (.one .u8) 32] }
def R66 : List ResultVar := [.tmp 2]
def K66 : List Nat := [0, 2, 3]
def N66 : Nrms := []
theorem ok66 : FnOk Tryz.prog 66 Tryz.f66 8 B66 R66 := ⟨by kernel_rfl, by kernel_rfl, by kernel_rfl, by kernel_rfl, by decide +kernel⟩

noncomputable def B67 : Code := (Tryz.f67.body.getD .skip)
def S67 : Sig := { ps := [.val], rs := [.val] }
def R67 : List ResultVar := [.tmp 2]
def K67 : List Nat := [0, 2]
def N67 : Nrms := []
theorem ok67 : FnOk Tryz.prog 67 Tryz.f67 9 B67 R67 := ⟨by kernel_rfl, by kernel_rfl, by kernel_rfl, by kernel_rfl, by decide +kernel⟩

noncomputable def B68 : Code := (Tryz.f68.body.getD .skip)
def S68 : Sig := { ps := [.val], rs := [.val] }
def R68 : List ResultVar := [.cell 2 54]
def K68 : List Nat := [0, 2]
def N68 : Nrms := []
theorem ok68 : FnOk Tryz.prog 68 Tryz.f68 6 B68 R68 := ⟨by kernel_rfl, by kernel_rfl, by kernel_rfl, by kernel_rfl, by decide +kernel⟩

noncomputable def B69 : Code := (Tryz.f69.body.getD .skip)
def S69 : Sig := { ps := [.val], rs := [.val] }
def R69 : List ResultVar := [.cell 2 54]
def K69 : List Nat := [0, 2]
def N69 : Nrms := []
theorem ok69 : FnOk Tryz.prog 69 Tryz.f69 6 B69 R69 := ⟨by kernel_rfl, by kernel_rfl, by kernel_rfl, by kernel_rfl, by decide +kernel⟩

noncomputable def B70 : Code := (Tryz.f70.body.getD .skip)
def S70 : Sig := { ps := [.view (.one .i64) 1], rs := [.val] }
def R70 : List ResultVar := [.tmp 2]
def K70 : List Nat := [0, 2, 3, 4, 5, 8, 10, 11, 12, 13, 19, 23]
def N70_0 : Nrm := { slots := [.tmp 3, .tmp 10, .tmp 11, .tmp 12], items := [0, 9] }
noncomputable def B70_0 : Code := bodyIn 0 (loopsIn B70)
def N70 : Nrms := [(0, N70_0)]
theorem ok70 : FnOk Tryz.prog 70 Tryz.f70 29 B70 R70 := ⟨by kernel_rfl, by kernel_rfl, by kernel_rfl, by kernel_rfl, by decide +kernel⟩

noncomputable def B71 : Code := (Tryz.f71.body.getD .skip)
def S71 : Sig := { ps := [.val, .val], rs := [.val] }
def R71 : List ResultVar := [.tmp 4]
def K71 : List Nat := [0, 1, 4]
def N71 : Nrms := []
theorem ok71 : FnOk Tryz.prog 71 Tryz.f71 12 B71 R71 := ⟨by kernel_rfl, by kernel_rfl, by kernel_rfl, by kernel_rfl, by decide +kernel⟩

noncomputable def B72 : Code := (Tryz.f72.body.getD .skip)
def S72 : Sig := { ps := [.view (.one .i64) 1], rs := [.fresh (.one .i64) 1] }
def R72 : List ResultVar := [.tmp 2]
def K72 : List Nat := [0, 2, 3]
def N72 : Nrms := []
theorem ok72 : FnOk Tryz.prog 72 Tryz.f72 8 B72 R72 := ⟨by kernel_rfl, by kernel_rfl, by kernel_rfl, by kernel_rfl, by decide +kernel⟩

noncomputable def B73 : Code := (Tryz.f73.body.getD .skip)
def S73 : Sig := { ps := [.view (.one .i64) 1], rs := [.val] }
def R73 : List ResultVar := [.tmp 2]
def K73 : List Nat := [0, 2, 3, 4, 7, 11, 25, 28, 39]
def N73_2 : Nrm := { slots := [.tmp 0, .tmp 3, .tmp 4], items := [0] }
def N73_0 : Nrm := { slots := [.tmp 0, .tmp 3], items := [0] }
noncomputable def B73_2 : Code := bodyIn 2 (loopsIn B73)
noncomputable def B73_0 : Code := bodyIn 0 (loopsIn B73)
def N73 : Nrms := [(2, N73_2), (0, N73_0)]
theorem ok73 : FnOk Tryz.prog 73 Tryz.f73 40 B73 R73 := ⟨by kernel_rfl, by kernel_rfl, by kernel_rfl, by kernel_rfl, by decide +kernel⟩

noncomputable def B74 : Code := (Tryz.f74.body.getD .skip)
def S74 : Sig := { ps := [.val, .val, .val], rs := [.val] }
def R74 : List ResultVar := [.cell 6 54]
def K74 : List Nat := [3, 4, 5, 6]
def N74 : Nrms := []
theorem ok74 : FnOk Tryz.prog 74 Tryz.f74 16 B74 R74 := ⟨by kernel_rfl, by kernel_rfl, by kernel_rfl, by kernel_rfl, by decide +kernel⟩

noncomputable def B75 : Code := (Tryz.f75.body.getD .skip)
def S75 : Sig := { ps := [.val, .val, .val], rs := [.val] }
def R75 : List ResultVar := [.cell 6 54]
def K75 : List Nat := [3, 4, 5, 6]
def N75 : Nrms := []
theorem ok75 : FnOk Tryz.prog 75 Tryz.f75 12 B75 R75 := ⟨by kernel_rfl, by kernel_rfl, by kernel_rfl, by kernel_rfl, by decide +kernel⟩

noncomputable def B76 : Code := (Tryz.f76.body.getD .skip)
def S76 : Sig := { ps := [.view (.one .u8) 32, .val], rs := [.fresh (.one .u8) 32] }
def R76 : List ResultVar := [.tmp 4]
def K76 : List Nat := [0, 3, 4, 5, 6, 7, 8, 9, 17, 18, 19, 30, 31, 32, 36, 77, 78, 79]
noncomputable def B76_4 : Code := bodyIn 4 (loopsIn B76)
noncomputable def B76_2 : Code := bodyIn 2 (loopsIn B76)
noncomputable def B76_0 : Code := bodyIn 0 (loopsIn B76)
theorem ok76 : FnOk Tryz.prog 76 Tryz.f76 95 B76 R76 := ⟨by kernel_rfl, by kernel_rfl, by kernel_rfl, by kernel_rfl, by decide +kernel⟩

noncomputable def B78 : Code := (Tryz.f78.body.getD .skip)
def S78 : Sig := { ps := [.val], rs := [.val, .val] }
def R78 : List ResultVar := [.cell 2 54, .tmp 3]
def K78 : List Nat := [1, 2, 3, 4, 5, 11]
def N78 : Nrms := []
theorem ok78 : FnOk Tryz.prog 78 Tryz.f78 23 B78 R78 := ⟨by kernel_rfl, by kernel_rfl, by kernel_rfl, by kernel_rfl, by decide +kernel⟩

noncomputable def B79 : Code := (Tryz.f79.body.getD .skip)
def S79 : Sig := { ps := [.val, .val], rs := [.val] }
def R79 : List ResultVar := [.cell 4 54]
def K79 : List Nat := [2, 3, 4]
def N79 : Nrms := []
theorem ok79 : FnOk Tryz.prog 79 Tryz.f79 12 B79 R79 := ⟨by kernel_rfl, by kernel_rfl, by kernel_rfl, by kernel_rfl, by decide +kernel⟩

noncomputable def B80 : Code := (Tryz.f80.body.getD .skip)
def S80 : Sig := { ps := [.val, .val], rs := [.val] }
def R80 : List ResultVar := [.cell 4 54]
def K80 : List Nat := [2, 3, 4]
def N80 : Nrms := []
theorem ok80 : FnOk Tryz.prog 80 Tryz.f80 11 B80 R80 := ⟨by kernel_rfl, by kernel_rfl, by kernel_rfl, by kernel_rfl, by decide +kernel⟩

noncomputable def B102 : Code := (Tryz.f102.body.getD .skip)
def S102 : Sig := { ps := [.view (.mix ck78) 33], rs := [.fresh (.one .i64) 1, .fresh (.mix ck105) 64] }
def R102 : List ResultVar := [.tmp 2, .tmp 3]
def K102 : List Nat := [0, 2, 3, 4, 5, 7, 8, 9, 10, 11]
noncomputable def B102_0 : Code := bodyIn 0 (loopsIn B102)
theorem ok102 : FnOk Tryz.prog 102 Tryz.f102 31 B102 R102 := ⟨by kernel_rfl, by kernel_rfl, by kernel_rfl, by kernel_rfl, by decide +kernel⟩

noncomputable def B103 : Code := (Tryz.f103.body.getD .skip)
def S103 : Sig := { ps := [.view (.mix ck105) 64, .val], rs := [.val] }
def R103 : List ResultVar := [.cell 4 54]
def K103 : List Nat := [0, 3, 4, 5, 6, 8, 9, 11, 12, 13, 14]
noncomputable def B103_0 : Code := bodyIn 0 (loopsIn B103)
theorem ok103 : FnOk Tryz.prog 103 Tryz.f103 37 B103 R103 := ⟨by kernel_rfl, by kernel_rfl, by kernel_rfl, by kernel_rfl, by decide +kernel⟩

noncomputable def B105 : Code := (Tryz.f105.body.getD .skip)
def S105 : Sig := { ps := [.view (.mix ck105) 64, .val], rs := [.val] }
def R105 : List ResultVar := [.tmp 4]
def K105 : List Nat := [0, 1, 4, 5, 8, 12, 22, 23, 24, 25, 36]
noncomputable def B105_0 : Code := bodyIn 0 (loopsIn B105)
theorem ok105 : FnOk Tryz.prog 105 Tryz.f105 38 B105 R105 := ⟨by kernel_rfl, by kernel_rfl, by kernel_rfl, by kernel_rfl, by decide +kernel⟩

noncomputable def B110 : Code := (Tryz.f110.body.getD .skip)
def S110 : Sig := { ps := [.val], rs := [.val] }
def R110 : List ResultVar := [.tmp 2]
def K110 : List Nat := [0, 2, 8]
theorem ok110 : FnOk Tryz.prog 110 Tryz.f110 9 B110 R110 := ⟨by kernel_rfl, by kernel_rfl, by kernel_rfl, by kernel_rfl, by decide +kernel⟩

noncomputable def B111 : Code := (Tryz.f111.body.getD .skip)
def S111 : Sig := { ps := [.val], rs := [.val] }
def R111 : List ResultVar := [.cell 2 54]
def K111 : List Nat := [1, 2]
def N111 : Nrms := []
theorem ok111 : FnOk Tryz.prog 111 Tryz.f111 7 B111 R111 := ⟨by kernel_rfl, by kernel_rfl, by kernel_rfl, by kernel_rfl, by decide +kernel⟩

noncomputable def B112 : Code := (Tryz.f112.body.getD .skip)
def R112 : List ResultVar := [.tmp 4, .tmp 5]
def K112 : List Nat := [0, 1, 4, 5, 6, 7, 8, 9, 10, 11, 12, 14, 18, 19, 20, 27, 37, 65, 66, 67, 68, 86, 87, 88, 89, 97]
noncomputable def B112_6 : Code := bodyIn 6 (loopsIn B112)
noncomputable def B112_4 : Code := bodyIn 4 (loopsIn B112)
noncomputable def B112_2 : Code := bodyIn 2 (loopsIn B112)
noncomputable def B112_0 : Code := bodyIn 0 (loopsIn B112)
theorem ok112 : FnOk Tryz.prog 112 Tryz.f112 100 B112 R112 := ⟨by kernel_rfl, by kernel_rfl, by kernel_rfl, by kernel_rfl, by decide +kernel⟩

noncomputable def B113 : Code := (Tryz.f113.body.getD .skip)
def S113 : Sig := { ps := [.view (.one .u8) 32, .view (.one .u8) 32, .val], rs := [.fresh (.one .u8) 32, .val] }
def R113 : List ResultVar := [.tmp 6, .tmp 7]
def K113 : List Nat := [0, 1, 2, 6, 7, 8, 9, 10, 11, 12, 14, 26, 42, 43, 44, 73, 74, 75, 76, 81]
noncomputable def B113_4 : Code := bodyIn 4 (loopsIn B113)
noncomputable def B113_2 : Code := bodyIn 2 (loopsIn B113)
noncomputable def B113_0 : Code := bodyIn 0 (loopsIn B113)
theorem ok113 : FnOk Tryz.prog 113 Tryz.f113 84 B113 R113 := ⟨by kernel_rfl, by kernel_rfl, by kernel_rfl, by kernel_rfl, by decide +kernel⟩

noncomputable def B114 : Code := (Tryz.f114.body.getD .skip)
def S114 : Sig := { ps := [.val], rs := [.val] }
def R114 : List ResultVar := [.cell 2 54]
def K114 : List Nat := [1, 2, 3, 4, 5, 6]
def N114_0 : Nrm := { slots := [.tmp 1, .tmp 2, .tmp 3, .tmp 5], items := [1, 2, 3] }
noncomputable def B114_0 : Code := bodyIn 0 (loopsIn B114)
def N114 : Nrms := [(0, N114_0)]
theorem ok114 : FnOk Tryz.prog 114 Tryz.f114 21 B114 R114 := ⟨by kernel_rfl, by kernel_rfl, by kernel_rfl, by kernel_rfl, by decide +kernel⟩

noncomputable def B115 : Code := (Tryz.f115.body.getD .skip)
def S115 : Sig := { ps := [.val, .val], rs := [.val] }
def R115 : List ResultVar := [.cell 4 167]
def K115 : List Nat := [2, 3, 4, 5, 6, 7, 8, 9]
def N115_0 : Nrm := { slots := [.tmp 2, .tmp 3, .tmp 4, .tmp 5, .tmp 6, .tmp 8], items := [2, 3, 4, 5] }
noncomputable def B115_0 : Code := bodyIn 0 (loopsIn B115)
def N115 : Nrms := [(0, N115_0)]
theorem ok115 : FnOk Tryz.prog 115 Tryz.f115 27 B115 R115 := ⟨by kernel_rfl, by kernel_rfl, by kernel_rfl, by kernel_rfl, by decide +kernel⟩

noncomputable def B116 : Code := (Tryz.f116.body.getD .skip)
def S116 : Sig := { ps := [.val], rs := [.val] }
def R116 : List ResultVar := [.cell 2 167]
def K116 : List Nat := [1, 2, 3, 6, 7]
def N116_0 : Nrm := { slots := [.tmp 2, .tmp 3, .tmp 6], items := [2, 3] }
noncomputable def B116_0 : Code := bodyIn 0 (loopsIn B116)
def N116 : Nrms := [(0, N116_0)]
theorem ok116 : FnOk Tryz.prog 116 Tryz.f116 12 B116 R116 := ⟨by kernel_rfl, by kernel_rfl, by kernel_rfl, by kernel_rfl, by decide +kernel⟩

noncomputable def B117 : Code := (Tryz.f117.body.getD .skip)
def R117 : List ResultVar := []
def K117 : List Nat := [0, 1, 2, 3, 8, 9, 10, 11, 12, 13, 14, 15, 16, 17, 18, 23, 29, 35, 50, 68, 72, 87, 113]
noncomputable def B117_0 : Code := bodyIn 0 (loopsIn B117)
theorem ok117 : FnOk Tryz.prog 117 Tryz.f117 134 B117 R117 := ⟨by kernel_rfl, by kernel_rfl, by kernel_rfl, by kernel_rfl, by decide +kernel⟩

noncomputable def B118 : Code := (Tryz.f118.body.getD .skip)
def S118 : Sig := { ps := [.val], rs := [.val] }
def R118 : List ResultVar := [.tmp 2]
def K118 : List Nat := [0, 2]
theorem ok118 : FnOk Tryz.prog 118 Tryz.f118 8 B118 R118 := ⟨by kernel_rfl, by kernel_rfl, by kernel_rfl, by kernel_rfl, by decide +kernel⟩

noncomputable def B119 : Code := (Tryz.f119.body.getD .skip)
def S119 : Sig := { ps := [.val, .val], rs := [.val] }
def R119 : List ResultVar := [.cell 4 54]
def K119 : List Nat := [2, 3, 4, 5, 6, 7, 8, 9, 16]
def N119_0 : Nrm := { slots := [.tmp 4, .tmp 5, .tmp 6, .tmp 7, .tmp 8, .tmp 9], items := [4, 5, 6, 14] }
noncomputable def B119_0 : Code := bodyIn 0 (loopsIn B119)
def N119 : Nrms := [(0, N119_0)]
theorem ok119 : FnOk Tryz.prog 119 Tryz.f119 44 B119 R119 := ⟨by kernel_rfl, by kernel_rfl, by kernel_rfl, by kernel_rfl, by decide +kernel⟩

noncomputable def B120 : Code := (Tryz.f120.body.getD .skip)
def S120 : Sig := { ps := [.val], rs := [.val] }
def R120 : List ResultVar := [.cell 2 54]
def K120 : List Nat := [0, 2, 3, 4, 6]
def N120_0 : Nrm := { slots := [.tmp 0, .tmp 2, .tmp 3, .tmp 4], items := [2, 3] }
noncomputable def B120_0 : Code := bodyIn 0 (loopsIn B120)
def N120 : Nrms := [(0, N120_0)]
theorem ok120 : FnOk Tryz.prog 120 Tryz.f120 18 B120 R120 := ⟨by kernel_rfl, by kernel_rfl, by kernel_rfl, by kernel_rfl, by decide +kernel⟩

noncomputable def B121 : Code := (Tryz.f121.body.getD .skip)
def S121 : Sig := { ps := [.val, .val], rs := [.val] }
def R121 : List ResultVar := [.cell 4 54]
def K121 : List Nat := [2, 3, 4]
def N121 : Nrms := []
theorem ok121 : FnOk Tryz.prog 121 Tryz.f121 11 B121 R121 := ⟨by kernel_rfl, by kernel_rfl, by kernel_rfl, by kernel_rfl, by decide +kernel⟩

noncomputable def B122 : Code := (Tryz.f122.body.getD .skip)
def S122 : Sig := { ps := [.val], rs := [.val] }
def R122 : List ResultVar := [.cell 2 54]
def K122 : List Nat := [1, 2, 3, 8]
def N122 : Nrms := []
theorem ok122 : FnOk Tryz.prog 122 Tryz.f122 14 B122 R122 := ⟨by kernel_rfl, by kernel_rfl, by kernel_rfl, by kernel_rfl, by decide +kernel⟩

noncomputable def B124 : Code := (Tryz.f124.body.getD .skip)
def S124 : Sig := { ps := [.val], rs := [.val] }
def R124 : List ResultVar := [.cell 2 176]
def K124 : List Nat := [1, 2]
def N124 : Nrms := []
theorem ok124 : FnOk Tryz.prog 124 Tryz.f124 6 B124 R124 := ⟨by kernel_rfl, by kernel_rfl, by kernel_rfl, by kernel_rfl, by decide +kernel⟩

noncomputable def B126 : Code := (Tryz.f126.body.getD .skip)
def S126 : Sig := { ps := [.val, .val], rs := [.val] }
def R126 : List ResultVar := [.cell 4 54]
def K126 : List Nat := [2, 3, 4]
def N126 : Nrms := []
theorem ok126 : FnOk Tryz.prog 126 Tryz.f126 9 B126 R126 := ⟨by kernel_rfl, by kernel_rfl, by kernel_rfl, by kernel_rfl, by decide +kernel⟩

noncomputable def B127 : Code := (Tryz.f127.body.getD .skip)
def S127 : Sig := { ps := [.val], rs := [.val, .val] }
def R127 : List ResultVar := [.cell 2 54, .tmp 3]
def K127 : List Nat := [1, 2, 3, 5]
def N127 : Nrms := []
theorem ok127 : FnOk Tryz.prog 127 Tryz.f127 10 B127 R127 := ⟨by kernel_rfl, by kernel_rfl, by kernel_rfl, by kernel_rfl, by decide +kernel⟩

noncomputable def B128 : Code := (Tryz.f128.body.getD .skip)
def S128 : Sig := { ps := [.val], rs := [.val] }
def R128 : List ResultVar := [.cell 2 54]
def K128 : List Nat := [0, 2]
def N128 : Nrms := []
theorem ok128 : FnOk Tryz.prog 128 Tryz.f128 6 B128 R128 := ⟨by kernel_rfl, by kernel_rfl, by kernel_rfl, by kernel_rfl, by decide +kernel⟩

noncomputable def B129 : Code := (Tryz.f129.body.getD .skip)
def S129 : Sig := { ps := [.val, .val], rs := [.val] }
def R129 : List ResultVar := [.cell 4 167]
def K129 : List Nat := [2, 3, 4]
def N129 : Nrms := []
theorem ok129 : FnOk Tryz.prog 129 Tryz.f129 10 B129 R129 := ⟨by kernel_rfl, by kernel_rfl, by kernel_rfl, by kernel_rfl, by decide +kernel⟩

noncomputable def B130 : Code := (Tryz.f130.body.getD .skip)
def S130 : Sig := { ps := [.view (.one .u8) 32], rs := [.fresh (.one .u8) 32, .val, .val] }
def R130 : List ResultVar := [.tmp 2, .tmp 3, .tmp 4]
def K130 : List Nat := [0, 2, 3, 4, 5, 6, 7, 8, 9, 10, 15, 16, 17, 18, 23, 39, 40, 41]
def N130_2 : Nrm := { slots := [.tmp 0, .tmp 5, .tmp 6, .tmp 39, .tmp 40], items := [0, 6, 13] }
def N130_0 : Nrm := { slots := [.tmp 0, .tmp 5, .tmp 6, .tmp 15, .tmp 16, .tmp 17], items := [0, 6, 13] }
noncomputable def B130_2 : Code := bodyIn 2 (loopsIn B130)
noncomputable def B130_0 : Code := bodyIn 0 (loopsIn B130)
def N130 : Nrms := [(2, N130_2), (0, N130_0)]
theorem ok130 : FnOk Tryz.prog 130 Tryz.f130 65 B130 R130 := ⟨by kernel_rfl, by kernel_rfl, by kernel_rfl, by kernel_rfl, by decide +kernel⟩

noncomputable def B131 : Code := (Tryz.f131.body.getD .skip)
def S131 : Sig := { ps := [.val, .val], rs := [.val, .val] }
def R131 : List ResultVar := [.cell 4 167, .tmp 5]
def K131 : List Nat := [2, 3, 4, 5, 6, 7, 8, 9, 10]
def N131_0 : Nrm := { slots := [.tmp 2, .tmp 3, .tmp 4, .tmp 6, .tmp 7, .tmp 9], items := [2, 3, 4, 6] }
noncomputable def B131_0 : Code := bodyIn 0 (loopsIn B131)
def N131 : Nrms := [(0, N131_0)]
theorem ok131 : FnOk Tryz.prog 131 Tryz.f131 28 B131 R131 := ⟨by kernel_rfl, by kernel_rfl, by kernel_rfl, by kernel_rfl, by decide +kernel⟩

noncomputable def B132 : Code := (Tryz.f132.body.getD .skip)
def S132 : Sig := { ps := [], rs := [.val] }
def R132 : List ResultVar := [.cell 0 167]
def K132 : List Nat := [0]
def N132 : Nrms := []
theorem ok132 : FnOk Tryz.prog 132 Tryz.f132 2 B132 R132 := ⟨by kernel_rfl, by kernel_rfl, by kernel_rfl, by kernel_rfl, by decide +kernel⟩

noncomputable def B133 : Code := (Tryz.f133.body.getD .skip)
def S133 : Sig := { ps := [.val, .val], rs := [.val] }
def R133 : List ResultVar := [.cell 4 167]
def K133 : List Nat := [2, 3, 4, 5, 6, 7, 15, 29]
def N133_0 : Nrm := { slots := [.tmp 3, .tmp 4, .tmp 5, .tmp 6, .tmp 7], items := [3, 4, 5, 6] }
noncomputable def B133_0 : Code := bodyIn 0 (loopsIn B133)
def N133 : Nrms := [(0, N133_0)]
theorem ok133 : FnOk Tryz.prog 133 Tryz.f133 36 B133 R133 := ⟨by kernel_rfl, by kernel_rfl, by kernel_rfl, by kernel_rfl, by decide +kernel⟩

noncomputable def B134 : Code := (Tryz.f134.body.getD .skip)
def S134 : Sig := { ps := [.val], rs := [.val] }
def R134 : List ResultVar := [.cell 2 167]
def K134 : List Nat := [1, 2, 3, 7]
def N134 : Nrms := []
theorem ok134 : FnOk Tryz.prog 134 Tryz.f134 16 B134 R134 := ⟨by kernel_rfl, by kernel_rfl, by kernel_rfl, by kernel_rfl, by decide +kernel⟩

noncomputable def B153 : Code := (Tryz.f153.body.getD .skip)
def S153 : Sig := { ps := [.view (.one .u8) 32, .view (.one .u8) 32], rs := [.val, .val] }
def R153 : List ResultVar := [.cell 4 54, .tmp 5]
def K153 : List Nat := [0, 1, 4, 5, 6, 7, 12, 15, 16, 17]
def N153_0 : Nrm := { slots := [.tmp 0, .tmp 1, .tmp 4, .tmp 6, .tmp 15, .tmp 16], items := [0, 1, 4, 6] }
noncomputable def B153_0 : Code := bodyIn 0 (loopsIn B153)
def N153 : Nrms := [(0, N153_0)]
theorem ok153 : FnOk Tryz.prog 153 Tryz.f153 35 B153 R153 := ⟨by kernel_rfl, by kernel_rfl, by kernel_rfl, by kernel_rfl, by decide +kernel⟩

noncomputable def B154 : Code := (Tryz.f154.body.getD .skip)
def S154 : Sig := { ps := [.val], rs := [.val] }
def R154 : List ResultVar := [.tmp 2]
def K154 : List Nat := [1, 2]
def N154 : Nrms := []
theorem ok154 : FnOk Tryz.prog 154 Tryz.f154 7 B154 R154 := ⟨by kernel_rfl, by kernel_rfl, by kernel_rfl, by kernel_rfl, by decide +kernel⟩

noncomputable def B155 : Code := (Tryz.f155.body.getD .skip)
def R155 : List ResultVar := []
def K155 : List Nat := [0, 1, 2, 6, 8, 9, 10, 11, 27, 28, 29, 48, 49, 50, 54, 67, 68, 69]
noncomputable def B155_4 : Code := bodyIn 4 (loopsIn B155)
noncomputable def B155_2 : Code := bodyIn 2 (loopsIn B155)
noncomputable def B155_0 : Code := bodyIn 0 (loopsIn B155)
theorem ok155 : FnOk Tryz.prog 155 Tryz.f155 95 B155 R155 := ⟨by kernel_rfl, by kernel_rfl, by kernel_rfl, by kernel_rfl, by decide +kernel⟩

noncomputable def B156 : Code := (Tryz.f156.body.getD .skip)
def S156 : Sig := { ps := [.view (.one .u8) 32], rs := [.fresh (.one .u8) 32] }
def R156 : List ResultVar := [.tmp 2]
def K156 : List Nat := [0, 2, 4]
theorem ok156 : FnOk Tryz.prog 156 Tryz.f156 8 B156 R156 := ⟨by kernel_rfl, by kernel_rfl, by kernel_rfl, by kernel_rfl, by decide +kernel⟩

noncomputable def B158 : Code := (Tryz.f158.body.getD .skip)
def S158 : Sig := { ps := [.val], rs := [.val] }
def R158 : List ResultVar := [.cell 2 167]
def K158 : List Nat := [1, 2, 3, 4, 12]
def N158 : Nrms := []
theorem ok158 : FnOk Tryz.prog 158 Tryz.f158 15 B158 R158 := ⟨by kernel_rfl, by kernel_rfl, by kernel_rfl, by kernel_rfl, by decide +kernel⟩

noncomputable def B159 : Code := (Tryz.f159.body.getD .skip)
def S159 : Sig := { ps := [.val], rs := [.val] }
def R159 : List ResultVar := [.cell 2 167]
def K159 : List Nat := [1, 2, 3, 4, 5, 6]
def N159_0 : Nrm := { slots := [.tmp 1, .tmp 2, .tmp 3, .tmp 5], items := [1, 2, 3] }
noncomputable def B159_0 : Code := bodyIn 0 (loopsIn B159)
def N159 : Nrms := [(0, N159_0)]
theorem ok159 : FnOk Tryz.prog 159 Tryz.f159 24 B159 R159 := ⟨by kernel_rfl, by kernel_rfl, by kernel_rfl, by kernel_rfl, by decide +kernel⟩

noncomputable def B160 : Code := (Tryz.f160.body.getD .skip)
def R160 : List ResultVar := []
def K160 : List Nat := [0, 1, 2, 6, 7, 12, 30]
noncomputable def B160_2 : Code := bodyIn 2 (loopsIn B160)
noncomputable def B160_0 : Code := bodyIn 0 (loopsIn B160)
theorem ok160 : FnOk Tryz.prog 160 Tryz.f160 49 B160 R160 := ⟨by kernel_rfl, by kernel_rfl, by kernel_rfl, by kernel_rfl, by decide +kernel⟩

noncomputable def B166 : Code := (Tryz.f166.body.getD .skip)
def S166 : Sig := { ps := [.val, .val], rs := [.val] }
def R166 : List ResultVar := [.tmp 4]
def K166 : List Nat := [0, 1, 4]
theorem ok166 : FnOk Tryz.prog 166 Tryz.f166 17 B166 R166 := ⟨by kernel_rfl, by kernel_rfl, by kernel_rfl, by kernel_rfl, by decide +kernel⟩

noncomputable def B170 : Code := (Tryz.f170.body.getD .skip)
def S170 : Sig := { ps := [.val], rs := [.val] }
def R170 : List ResultVar := [.tmp 2]
def K170 : List Nat := [0, 2, 4, 8, 14]
theorem ok170 : FnOk Tryz.prog 170 Tryz.f170 25 B170 R170 := ⟨by kernel_rfl, by kernel_rfl, by kernel_rfl, by kernel_rfl, by decide +kernel⟩

noncomputable def B171 : Code := (Tryz.f171.body.getD .skip)
def S171 : Sig := { ps := [.val], rs := [.val] }
def R171 : List ResultVar := [.cell 2 54]
def K171 : List Nat := [1, 2, 3, 4, 6]
def N171_0 : Nrm := { slots := [.tmp 1, .tmp 2, .tmp 3, .tmp 4], items := [1, 2, 3] }
noncomputable def B171_0 : Code := bodyIn 0 (loopsIn B171)
def N171 : Nrms := [(0, N171_0)]
theorem ok171 : FnOk Tryz.prog 171 Tryz.f171 22 B171 R171 := ⟨by kernel_rfl, by kernel_rfl, by kernel_rfl, by kernel_rfl, by decide +kernel⟩

noncomputable def B172 : Code := (Tryz.f172.body.getD .skip)
def S172 : Sig := { ps := [.view (.one .u32) 1], rs := [.val] }
def R172 : List ResultVar := [.cell 2 176]
def K172 : List Nat := [0, 2, 3, 4, 5, 6, 12, 16, 32]
def N172_2 : Nrm := { slots := [.tmp 0, .tmp 2, .tmp 3, .tmp 4, .tmp 5, .tmp 6], items := [0, 2, 3, 4] }
def N172_0 : Nrm := { slots := [.tmp 0, .tmp 2, .tmp 3, .tmp 4, .tmp 5], items := [0, 2, 3, 4] }
noncomputable def B172_2 : Code := bodyIn 2 (loopsIn B172)
noncomputable def B172_0 : Code := bodyIn 0 (loopsIn B172)
def N172 : Nrms := [(2, N172_2), (0, N172_0)]
theorem ok172 : FnOk Tryz.prog 172 Tryz.f172 37 B172 R172 := ⟨by kernel_rfl, by kernel_rfl, by kernel_rfl, by kernel_rfl, by decide +kernel⟩

noncomputable def B173 : Code := (Tryz.f173.body.getD .skip)
def S173 : Sig := { ps := [.val, .val], rs := [.val] }
def R173 : List ResultVar := [.cell 4 176]
def K173 : List Nat := [2, 3, 4, 5, 6, 7, 8, 11, 15]
def N173_2 : Nrm := { slots := [.tmp 2, .tmp 3, .tmp 4, .tmp 5, .tmp 6, .tmp 7, .tmp 8], items := [2, 3, 4, 9] }
def N173_0 : Nrm := { slots := [.tmp 2, .tmp 3, .tmp 4, .tmp 5, .tmp 6], items := [2, 3, 4, 9] }
noncomputable def B173_2 : Code := bodyIn 2 (loopsIn B173)
noncomputable def B173_0 : Code := bodyIn 0 (loopsIn B173)
def N173 : Nrms := [(2, N173_2), (0, N173_0)]
theorem ok173 : FnOk Tryz.prog 173 Tryz.f173 54 B173 R173 := ⟨by kernel_rfl, by kernel_rfl, by kernel_rfl, by kernel_rfl, by decide +kernel⟩

noncomputable def B174 : Code := (Tryz.f174.body.getD .skip)
def S174 : Sig := { ps := [.val, .val], rs := [.val] }
def R174 : List ResultVar := [.cell 4 176]
def K174 : List Nat := [2, 3, 4, 5, 6, 7, 9]
def N174_0 : Nrm := { slots := [.tmp 2, .tmp 3, .tmp 4, .tmp 5, .tmp 6], items := [2, 3, 4] }
noncomputable def B174_0 : Code := bodyIn 0 (loopsIn B174)
def N174 : Nrms := [(0, N174_0)]
theorem ok174 : FnOk Tryz.prog 174 Tryz.f174 30 B174 R174 := ⟨by kernel_rfl, by kernel_rfl, by kernel_rfl, by kernel_rfl, by decide +kernel⟩

noncomputable def B175 : Code := (Tryz.f175.body.getD .skip)
def S175 : Sig := { ps := [], rs := [.val] }
def R175 : List ResultVar := [.cell 0 176]
def K175 : List Nat := [0]
def N175 : Nrms := []
theorem ok175 : FnOk Tryz.prog 175 Tryz.f175 2 B175 R175 := ⟨by kernel_rfl, by kernel_rfl, by kernel_rfl, by kernel_rfl, by decide +kernel⟩

noncomputable def B176 : Code := (Tryz.f176.body.getD .skip)
def S176 : Sig := { ps := [.view (.one .u8) 1], rs := [.fresh (.one .u32) 1] }
def R176 : List ResultVar := [.tmp 2]
def K176 : List Nat := [0, 2, 3, 4, 13]
def N176_0 : Nrm := { slots := [.tmp 0, .tmp 3, .tmp 4], items := [0, 9] }
noncomputable def B176_0 : Code := bodyIn 0 (loopsIn B176)
def N176 : Nrms := [(0, N176_0)]
theorem ok176 : FnOk Tryz.prog 176 Tryz.f176 37 B176 R176 := ⟨by kernel_rfl, by kernel_rfl, by kernel_rfl, by kernel_rfl, by decide +kernel⟩

noncomputable def B177 : Code := (Tryz.f177.body.getD .skip)
def S177 : Sig := { ps := [.val, .view (.one .u8) 1], rs := [.val] }
def R177 : List ResultVar := [.cell 4 54]
def K177 : List Nat := [1, 2, 4, 5, 6, 7, 8, 16, 20, 34]
def N177_2 : Nrm := { slots := [.tmp 1, .tmp 4, .tmp 5, .tmp 6, .tmp 7, .tmp 8], items := [1, 4, 5, 6] }
def N177_0 : Nrm := { slots := [.tmp 1, .tmp 4, .tmp 5, .tmp 6, .tmp 7], items := [1, 4, 5, 6] }
noncomputable def B177_2 : Code := bodyIn 2 (loopsIn B177)
noncomputable def B177_0 : Code := bodyIn 0 (loopsIn B177)
def N177 : Nrms := [(2, N177_2), (0, N177_0)]
theorem ok177 : FnOk Tryz.prog 177 Tryz.f177 40 B177 R177 := ⟨by kernel_rfl, by kernel_rfl, by kernel_rfl, by kernel_rfl, by decide +kernel⟩

noncomputable def B178 : Code := (Tryz.f178.body.getD .skip)
def S178 : Sig := { ps := [.val], rs := [.fresh (.one .u8) 1] }
def R178 : List ResultVar := [.tmp 2]
def K178 : List Nat := [0, 2, 3]
def N178 : Nrms := []
theorem ok178 : FnOk Tryz.prog 178 Tryz.f178 10 B178 R178 := ⟨by kernel_rfl, by kernel_rfl, by kernel_rfl, by kernel_rfl, by decide +kernel⟩

noncomputable def B179 : Code := (Tryz.f179.body.getD .skip)
def S179 : Sig := { ps := [.val, .val], rs := [.val] }
def R179 : List ResultVar := [.cell 4 167]
def K179 : List Nat := [2, 3, 4, 5, 6, 7, 8, 9, 10, 11, 12, 14, 15, 17, 18, 59]
def N179_4 : Nrm := { slots := [.tmp 2, .tmp 3, .tmp 4, .tmp 5, .tmp 6, .tmp 8, .tmp 10, .tmp 11, .tmp 14], items := [2, 3, 4, 5, 6] }
def N179_2 : Nrm := { slots := [.tmp 2, .tmp 3, .tmp 4, .tmp 5, .tmp 6, .tmp 7, .tmp 8, .tmp 14, .tmp 17], items := [2, 3, 4, 5, 6] }
def N179_0 : Nrm := { slots := [.tmp 2, .tmp 3, .tmp 4, .tmp 5, .tmp 6, .tmp 14], items := [2, 3, 4, 5, 6] }
noncomputable def B179_4 : Code := bodyIn 4 (loopsIn B179)
noncomputable def B179_2 : Code := bodyIn 2 (loopsIn B179)
noncomputable def B179_0 : Code := bodyIn 0 (loopsIn B179)
def N179 : Nrms := [(4, N179_4), (2, N179_2), (0, N179_0)]
theorem ok179 : FnOk Tryz.prog 179 Tryz.f179 101 B179 R179 := ⟨by kernel_rfl, by kernel_rfl, by kernel_rfl, by kernel_rfl, by decide +kernel⟩

noncomputable def B180 : Code := (Tryz.f180.body.getD .skip)
def S180 : Sig := { ps := [], rs := [.val] }
def R180 : List ResultVar := [.cell 0 167]
def K180 : List Nat := [0]
def N180 : Nrms := []
theorem ok180 : FnOk Tryz.prog 180 Tryz.f180 2 B180 R180 := ⟨by kernel_rfl, by kernel_rfl, by kernel_rfl, by kernel_rfl, by decide +kernel⟩

noncomputable def B187 : Code := (Tryz.f187.body.getD .skip)
def S187 : Sig := { ps := [.val], rs := [.val] }
def R187 : List ResultVar := [.tmp 2]
def K187 : List Nat := [0, 2]
theorem ok187 : FnOk Tryz.prog 187 Tryz.f187 6 B187 R187 := ⟨by kernel_rfl, by kernel_rfl, by kernel_rfl, by kernel_rfl, by decide +kernel⟩

noncomputable def B188 : Code := (Tryz.f188.body.getD .skip)
def S188 : Sig := { ps := [.val, .val], rs := [.val] }
def R188 : List ResultVar := [.cell 4 176]
def K188 : List Nat := [1, 2, 4, 5, 6, 8]
def N188_0 : Nrm := { slots := [.tmp 1, .tmp 2, .tmp 4, .tmp 5], items := [2, 4] }
noncomputable def B188_0 : Code := bodyIn 0 (loopsIn B188)
def N188 : Nrms := [(0, N188_0)]
theorem ok188 : FnOk Tryz.prog 188 Tryz.f188 25 B188 R188 := ⟨by kernel_rfl, by kernel_rfl, by kernel_rfl, by kernel_rfl, by decide +kernel⟩

noncomputable def B189 : Code := (Tryz.f189.body.getD .skip)
def S189 : Sig := { ps := [.val, .val], rs := [.val] }
def R189 : List ResultVar := [.tmp 4]
def K189 : List Nat := [2, 3, 4, 5, 7, 16]
def N189_0 : Nrm := { slots := [.tmp 2, .tmp 3, .tmp 5], items := [2, 3] }
noncomputable def B189_0 : Code := bodyIn 0 (loopsIn B189)
def N189 : Nrms := [(0, N189_0)]
theorem ok189 : FnOk Tryz.prog 189 Tryz.f189 24 B189 R189 := ⟨by kernel_rfl, by kernel_rfl, by kernel_rfl, by kernel_rfl, by decide +kernel⟩

noncomputable def B190 : Code := (Tryz.f190.body.getD .skip)
def S190 : Sig := { ps := [.val, .val, .val, .val], rs := [.val, .val] }
def R190 : List ResultVar := [.tmp 8, .tmp 9]
def K190 : List Nat := [0, 1, 2, 3, 8, 9, 10, 11, 12]
def N190 : Nrms := []
theorem ok190 : FnOk Tryz.prog 190 Tryz.f190 38 B190 R190 := ⟨by kernel_rfl, by kernel_rfl, by kernel_rfl, by kernel_rfl, by decide +kernel⟩

noncomputable def B192 : Code := (Tryz.f192.body.getD .skip)
def S192 : Sig := { ps := [.val, .val], rs := [.val, .val] }
def R192 : List ResultVar := [.tmp 4, .tmp 5]
def K192 : List Nat := [0, 1, 4, 5, 6, 7, 8, 9, 10, 11, 12, 13]
def N192 : Nrms := []
theorem ok192 : FnOk Tryz.prog 192 Tryz.f192 51 B192 R192 := ⟨by kernel_rfl, by kernel_rfl, by kernel_rfl, by kernel_rfl, by decide +kernel⟩

end Go.Proofs.YtogcijgklnfjjaaGreat

namespace Go.Proofs.YtogcijgklnfjjaaGreat
open Go Go.Eng
set_option maxRecDepth 100000
set_option linter.unusedVariables false

def f73_2_sh : Shp := { n := 40, lo := 1, slots := [(0, .one (.fix (At.own 0))), (3, .one (.int IntKind.i64)), (4, .one (.int IntKind.i64))], items := [(0, .view (RK.one IntKind.i64) 1)] }
def f73_2_ex1 : Shp := { n := 40, lo := 1, slots := [(2, .one (.int IntKind.i64)), (39, .one (.bool)), (28, .one (.bool)), (0, .one (.fix (At.own 0))), (3, .one (.int IntKind.i64)), (4, .one (.int IntKind.i64))], items := [(0, .view (RK.one IntKind.i64) 1)] }
def f73_2_ex2 : Shp := { n := 40, lo := 1, slots := [(28, .one (.bool)), (0, .one (.fix (At.own 0))), (3, .one (.int IntKind.i64)), (4, .one (.int IntKind.i64))], items := [(0, .view (RK.one IntKind.i64) 1)] }
noncomputable def f73_2_st {R : Type} (N : Nat) (self : Int → Int → List Int → Option R) (k1 : Int → Bool → Bool → Int → Int → List Int → Option R) (k2 : Bool → Int → Int → List Int → Option R) (x1 : Int) (x2 : Int) (x3 : List Int) : Option R :=
 bif Decidable.decide (x2 < x1) then
 bif Decidable.decide (0 ≤ x2) && Decidable.decide (x2 < nI (rowLen 1 x3)) then
 bif Decidable.decide (0 ≤ x1) && Decidable.decide (x1 < nI (rowLen 1 x3)) then
 bif x3.getD (mulE x2.toNat 1) 0 == x3.getD (mulE x1.toNat 1) 0 then k1 5 (x3.getD (mulE x2.toNat 1) 0 == x3.getD (mulE x1.toNat 1) 0) (Decidable.decide (x2 < x1)) x1 x2 x3
 else
 let v0 : Int := IntKind.i64.wrap (x2 + 1);
 self x1 v0 x3
 else Option.none
 else Option.none
else k2 (Decidable.decide (x2 < x1)) x1 x2 x3
noncomputable def f73_2_lp {R : Type} (N : Nat) (k1 : Int → Bool → Bool → Int → Int → List Int → Option R) (k2 : Bool → Int → Int → List Int → Option R) : Nat → Int → Int → List Int → Option R
 | 0, _, _, _ => none
 | n + 1, x1, x2, x3 => f73_2_st N (f73_2_lp N k1 k2 n) k1 k2 x1 x2 x3
noncomputable def f73_2_F (N : Nat) : (R : Type) → List Leaf → (X → AS → Option R) → Option R := fun _ ls K => match ls with
 | [.i x1, .i x2, .l x3] => f73_2_lp N (fun y1 y2 y3 y4 y5 y6 => K (X.ret) (fill f73_2_ex1 [.i y1, .b y2, .b y3, .i y4, .i y5, .l y6])) (fun y1 y2 y3 y4 => K (X.normal) (fill f73_2_ex2 [.b y1, .i y2, .i y3, .l y4])) N x1 x2 x3
 | _ => none
def f73_0_sh : Shp := { n := 40, lo := 1, slots := [(0, .one (.fix (At.own 0))), (3, .one (.int IntKind.i64))], items := [(0, .view (RK.one IntKind.i64) 1)] }
def f73_0_ex1 : Shp := { n := 40, lo := 1, slots := [(2, .one (.int IntKind.i64)), (25, .one (.bool)), (11, .one (.bool)), (0, .one (.fix (At.own 0))), (3, .one (.int IntKind.i64))], items := [(0, .view (RK.one IntKind.i64) 1)] }
def f73_0_ex2 : Shp := { n := 40, lo := 1, slots := [(2, .one (.int IntKind.i64)), (39, .one (.bool)), (28, .one (.bool)), (0, .one (.fix (At.own 0))), (3, .one (.int IntKind.i64)), (4, .one (.int IntKind.i64))], items := [(0, .view (RK.one IntKind.i64) 1)] }
def f73_0_ex3 : Shp := { n := 40, lo := 1, slots := [(11, .one (.bool)), (0, .one (.fix (At.own 0))), (3, .one (.int IntKind.i64))], items := [(0, .view (RK.one IntKind.i64) 1)] }
noncomputable def f73_0_st {R : Type} (N : Nat) (self : Int → List Int → Option R) (k1 : Int → Bool → Bool → Int → List Int → Option R) (k2 : Int → Bool → Bool → Int → Int → List Int → Option R) (k3 : Bool → Int → List Int → Option R) (x1 : Int) (x2 : List Int) : Option R :=
 bif Decidable.decide (x1 < nI (rowLen 1 x2)) then
 bif Decidable.decide (0 ≤ x1) && Decidable.decide (x1 < nI (rowLen 1 x2)) then
 bif Decidable.decide (x2.getD (mulE x1.toNat 1) 0 < 1) then k1 4 Bool.true (Decidable.decide (x1 < nI (rowLen 1 x2))) x1 x2
 else
 bif Decidable.decide (0 ≤ x1) && Decidable.decide (x1 < nI (rowLen 1 x2)) then
 let v0 : Bool := bif Bool.false then Bool.true else Decidable.decide (x2.getD (mulE x1.toNat 1) 0 > 255);
 bif v0 then k1 4 v0 (Decidable.decide (x1 < nI (rowLen 1 x2))) x1 x2
 else
 f73_2_lp N (fun w1_1 w1_2 w1_3 w1_4 w1_5 w1_6 => k2 w1_1 w1_2 w1_3 w1_4 w1_5 w1_6)
 (fun w2_1 w2_2 w2_3 w2_4 =>
 let v3 : Int := IntKind.i64.wrap (w2_2 + 1);
 self v3 w2_4)
 N x1 0 x2
 else Option.none
 else Option.none
else k3 (Decidable.decide (x1 < nI (rowLen 1 x2))) x1 x2
noncomputable def f73_0_lp {R : Type} (N : Nat) (k1 : Int → Bool → Bool → Int → List Int → Option R) (k2 : Int → Bool → Bool → Int → Int → List Int → Option R) (k3 : Bool → Int → List Int → Option R) : Nat → Int → List Int → Option R
 | 0, _, _ => none
 | n + 1, x1, x2 => f73_0_st N (f73_0_lp N k1 k2 k3 n) k1 k2 k3 x1 x2
noncomputable def f73_0_F (N : Nat) : (R : Type) → List Leaf → (X → AS → Option R) → Option R := fun _ ls K => match ls with
 | [.i x1, .l x2] => f73_0_lp N (fun y1 y2 y3 y4 y5 => K (X.ret) (fill f73_0_ex1 [.i y1, .b y2, .b y3, .i y4, .l y5])) (fun y1 y2 y3 y4 y5 y6 => K (X.ret) (fill f73_0_ex2 [.i y1, .b y2, .b y3, .i y4, .i y5, .l y6])) (fun y1 y2 y3 => K (X.normal) (fill f73_0_ex3 [.b y1, .i y2, .l y3])) N x1 x2
 | _ => none
noncomputable def f73_raw {R : Type} (N : Nat) (xs : List Int) (k : List DV → Option R) : Option R :=
 bif nI (rowLen 1 xs) == 0 then k [DV.v (SV.one (At.int IntKind.i64 8))] else f73_0_lp N (fun w0_1 w0_2 w0_3 w0_4 w0_5 => k [DV.v (SV.one (At.int IntKind.i64 w0_1))]) (fun w1_1 w1_2 w1_3 w1_4 w1_5 w1_6 => k [DV.v (SV.one (At.int IntKind.i64 w1_1))]) (fun w2_1 w2_2 w2_3 => k [DV.v (SV.one (At.int IntKind.i64 0))]) N 0 xs


noncomputable def E73 (N : Nat) : Env := { Θ := Th, Γ := [], K := K73, ν := N73, fuel := 0, lp := [(0, mkL N73_0 f73_0_sh (f73_0_F N)), (2, mkL N73_2 f73_2_sh (f73_2_F N))] }

theorem f73_2_st_eq {R : Type} (N : Nat) (K : X → AS → Option R) (n : Nat) (x1 : Int) (x2 : Int) (x3 : List Int) : roundsOf (E73 N) N73_2 2 B73_2 K (n + 1) (fill f73_2_sh [.i x1, .i x2, .l x3]) = f73_2_st N (fun x1 x2 x3 => roundsOf (E73 N) N73_2 2 B73_2 K n (fill f73_2_sh [.i x1, .i x2, .l x3])) (fun y1 y2 y3 y4 y5 y6 => K (X.ret) (fill f73_2_ex1 [.i y1, .b y2, .b y3, .i y4, .i y5, .l y6])) (fun y1 y2 y3 y4 => K (X.normal) (fill f73_2_ex2 [.b y1, .i y2, .i y3, .l y4])) x1 x2 x3 := by kernel_rfl
theorem f73_2_lp_eq {R : Type} (N : Nat) (K : X → AS → Option R) : ∀ (n : Nat) (x1 : Int) (x2 : Int) (x3 : List Int), roundsOf (E73 N) N73_2 2 B73_2 K n (fill f73_2_sh [.i x1, .i x2, .l x3]) = f73_2_lp N (fun y1 y2 y3 y4 y5 y6 => K (X.ret) (fill f73_2_ex1 [.i y1, .b y2, .b y3, .i y4, .i y5, .l y6])) (fun y1 y2 y3 y4 => K (X.normal) (fill f73_2_ex2 [.b y1, .i y2, .i y3, .l y4])) n x1 x2 x3
  | 0, _, _, _ => rfl
  | n + 1, x1, x2, x3 => by
    rw [f73_2_st_eq, f73_2_lp, show (fun x1 x2 x3 => roundsOf (E73 N) N73_2 2 B73_2 K n (fill f73_2_sh [.i x1, .i x2, .l x3])) = f73_2_lp N (fun y1 y2 y3 y4 y5 y6 => K (X.ret) (fill f73_2_ex1 [.i y1, .b y2, .b y3, .i y4, .i y5, .l y6])) (fun y1 y2 y3 y4 => K (X.normal) (fill f73_2_ex2 [.b y1, .i y2, .i y3, .l y4])) n from by funext x1 x2 x3; exact f73_2_lp_eq N K n x1 x2 x3]
theorem f73_2_ok (N : Nat) (hlp : LoopsOk Tryz.prog (E73 N).lp B73_2) (hΓ : CtxOk Tryz.prog (E73 N).Γ) : LoopOk Tryz.prog (mkL N73_2 f73_2_sh (f73_2_F N)) 2 B73_2 := by
  refine loopOk_of (E := E73 N) thOk hΓ mixed hlp ?_
  intro R ls K r h
  unfold f73_2_F at h
  split at h
  · exact ⟨N, by rw [f73_2_lp_eq]; exact h⟩
  · cases h
theorem f73_0_st_eq {R : Type} (N : Nat) (K : X → AS → Option R) (n : Nat) (x1 : Int) (x2 : List Int) : roundsOf (E73 N) N73_0 0 B73_0 K (n + 1) (fill f73_0_sh [.i x1, .l x2]) = f73_0_st N (fun x1 x2 => roundsOf (E73 N) N73_0 0 B73_0 K n (fill f73_0_sh [.i x1, .l x2])) (fun y1 y2 y3 y4 y5 => K (X.ret) (fill f73_0_ex1 [.i y1, .b y2, .b y3, .i y4, .l y5])) (fun y1 y2 y3 y4 y5 y6 => K (X.ret) (fill f73_0_ex2 [.i y1, .b y2, .b y3, .i y4, .i y5, .l y6])) (fun y1 y2 y3 => K (X.normal) (fill f73_0_ex3 [.b y1, .i y2, .l y3])) x1 x2 := by kernel_rfl
theorem f73_0_lp_eq {R : Type} (N : Nat) (K : X → AS → Option R) : ∀ (n : Nat) (x1 : Int) (x2 : List Int), roundsOf (E73 N) N73_0 0 B73_0 K n (fill f73_0_sh [.i x1, .l x2]) = f73_0_lp N (fun y1 y2 y3 y4 y5 => K (X.ret) (fill f73_0_ex1 [.i y1, .b y2, .b y3, .i y4, .l y5])) (fun y1 y2 y3 y4 y5 y6 => K (X.ret) (fill f73_0_ex2 [.i y1, .b y2, .b y3, .i y4, .i y5, .l y6])) (fun y1 y2 y3 => K (X.normal) (fill f73_0_ex3 [.b y1, .i y2, .l y3])) n x1 x2
  | 0, _, _ => rfl
  | n + 1, x1, x2 => by
    rw [f73_0_st_eq, f73_0_lp, show (fun x1 x2 => roundsOf (E73 N) N73_0 0 B73_0 K n (fill f73_0_sh [.i x1, .l x2])) = f73_0_lp N (fun y1 y2 y3 y4 y5 => K (X.ret) (fill f73_0_ex1 [.i y1, .b y2, .b y3, .i y4, .l y5])) (fun y1 y2 y3 y4 y5 y6 => K (X.ret) (fill f73_0_ex2 [.i y1, .b y2, .b y3, .i y4, .i y5, .l y6])) (fun y1 y2 y3 => K (X.normal) (fill f73_0_ex3 [.b y1, .i y2, .l y3])) n from by funext x1 x2; exact f73_0_lp_eq N K n x1 x2]
theorem f73_0_ok (N : Nat) (hlp : LoopsOk Tryz.prog (E73 N).lp B73_0) (hΓ : CtxOk Tryz.prog (E73 N).Γ) : LoopOk Tryz.prog (mkL N73_0 f73_0_sh (f73_0_F N)) 0 B73_0 := by
  refine loopOk_of (E := E73 N) thOk hΓ mixed hlp ?_
  intro R ls K r h
  unfold f73_0_F at h
  split at h
  · exact ⟨N, by rw [f73_0_lp_eq]; exact h⟩
  · cases h

theorem lok73_2 (N : Nat) (hΓ : CtxOk Tryz.prog []) : LoopOk Tryz.prog (mkL N73_2 f73_2_sh (f73_2_F N)) 2 B73_2 := f73_2_ok N (loopsOk_of (l := []) (by kernel_rfl) trivial) hΓ
theorem lok73_0 (N : Nat) (hΓ : CtxOk Tryz.prog []) : LoopOk Tryz.prog (mkL N73_0 f73_0_sh (f73_0_F N)) 0 B73_0 := f73_0_ok N (loopsOk_of (l := [(2, B73_2)]) (by kernel_rfl) (allOk_cons (L := mkL N73_2 f73_2_sh (f73_2_F N)) rfl (lok73_2 N hΓ) trivial)) hΓ
theorem f73_contract (N : Nat) (hΓ : CtxOk Tryz.prog []) : Contract Tryz.prog 73 { sig := S73, impl := fun _ ds k => call (E73 N) S73 40 B73 R73 ds k } :=
  call_contract (E := E73 N) thOk hΓ mixed ok73.look ok73.body ok73.n ok73.rv ok73.name rfl (by decide) (loopsOk_of (l := [(0, B73_0), (2, B73_2)]) (by kernel_rfl) (allOk_cons (L := mkL N73_0 f73_0_sh (f73_0_F N)) rfl (lok73_0 N hΓ) (allOk_cons (L := mkL N73_2 f73_2_sh (f73_2_F N)) rfl (lok73_2 N hΓ) trivial)))
theorem f73_raw_eq {R : Type} (N : Nat) (xs : List Int) (k : List DV → Option R) : call (E73 N) S73 40 B73 R73 [.lst (.one .i64) 1 xs] k = f73_raw N xs k := by kernel_rfl
end Go.Proofs.YtogcijgklnfjjaaGreat

namespace Go.Proofs.YtogcijgklnfjjaaGreat
open Go Go.Eng
set_option maxRecDepth 100000
set_option linter.unusedVariables false

def f11_0_sh : Shp := { n := 26, lo := 2, slots := [(0, .one (.fix (At.own 0))), (1, .one (.fix (At.own 1))), (5, .one (.int IntKind.i64))], items := [(0, .view (RK.one IntKind.u8) 32), (1, .view (RK.one IntKind.u8) 32)] }
def f11_0_ex1 : Shp := { n := 26, lo := 2, slots := [(4, .one (.bool)), (25, .one (.bool)), (14, .one (.bool)), (0, .one (.fix (At.own 0))), (1, .one (.fix (At.own 1))), (5, .one (.int IntKind.i64))], items := [(0, .view (RK.one IntKind.u8) 32), (1, .view (RK.one IntKind.u8) 32)] }
def f11_0_ex2 : Shp := { n := 26, lo := 2, slots := [(14, .one (.bool)), (0, .one (.fix (At.own 0))), (1, .one (.fix (At.own 1))), (5, .one (.int IntKind.i64))], items := [(0, .view (RK.one IntKind.u8) 32), (1, .view (RK.one IntKind.u8) 32)] }
noncomputable def f11_0_st {R : Type} (N : Nat) (self : Int → List Int → List Int → Option R) (k1 : Bool → Bool → Bool → Int → List Int → List Int → Option R) (k2 : Bool → Int → List Int → List Int → Option R) (x1 : Int) (x2 : List Int) (x3 : List Int) : Option R :=
 bif Decidable.decide (x1 < nI (rowLen 32 x2)) then
 bif Decidable.decide (0 ≤ x1) && Decidable.decide (x1 < nI (rowLen 32 x2)) then
 bif Decidable.decide (0 ≤ x1) && Decidable.decide (x1 < nI (rowLen 32 x3)) then
 bif !Decidable.decide (List.take 32 (List.drop (mulE x1.toNat 32) x2) = List.take 32 (List.drop (mulE x1.toNat 32) x3)) then k1 Bool.false (!Decidable.decide (List.take 32 (List.drop (mulE x1.toNat 32) x2) = List.take 32 (List.drop (mulE x1.toNat 32) x3))) (Decidable.decide (x1 < nI (rowLen 32 x2))) x1 x2 x3
 else
 let v0 : Int := IntKind.i64.wrap (x1 + 1);
 self v0 x2 x3
 else Option.none
 else Option.none
else k2 (Decidable.decide (x1 < nI (rowLen 32 x2))) x1 x2 x3
noncomputable def f11_0_lp {R : Type} (N : Nat) (k1 : Bool → Bool → Bool → Int → List Int → List Int → Option R) (k2 : Bool → Int → List Int → List Int → Option R) : Nat → Int → List Int → List Int → Option R
 | 0, _, _, _ => none
 | n + 1, x1, x2, x3 => f11_0_st N (f11_0_lp N k1 k2 n) k1 k2 x1 x2 x3
noncomputable def f11_0_F (N : Nat) : (R : Type) → List Leaf → (X → AS → Option R) → Option R := fun _ ls K => match ls with
 | [.i x1, .l x2, .l x3] => f11_0_lp N (fun y1 y2 y3 y4 y5 y6 => K (X.ret) (fill f11_0_ex1 [.b y1, .b y2, .b y3, .i y4, .l y5, .l y6])) (fun y1 y2 y3 y4 => K (X.normal) (fill f11_0_ex2 [.b y1, .i y2, .l y3, .l y4])) N x1 x2 x3
 | _ => none
noncomputable def f11_raw {R : Type} (N : Nat) (xs : List Int) (ys : List Int) (k : List DV → Option R) : Option R :=
 bif nI (rowLen 32 xs) != nI (rowLen 32 ys) then k [DV.v (SV.one (At.bool Bool.false))] else f11_0_lp N (fun w0_1 w0_2 w0_3 w0_4 w0_5 w0_6 => k [DV.v (SV.one (At.bool w0_1))]) (fun w1_1 w1_2 w1_3 w1_4 => k [DV.v (SV.one (At.bool Bool.true))]) N 0 xs ys


noncomputable def E11 (N : Nat) : Env := { Θ := Th, Γ := [], K := K11, ν := N11, fuel := 0, lp := [(0, mkL N11_0 f11_0_sh (f11_0_F N))] }

theorem f11_0_st_eq {R : Type} (N : Nat) (K : X → AS → Option R) (n : Nat) (x1 : Int) (x2 : List Int) (x3 : List Int) : roundsOf (E11 N) N11_0 0 B11_0 K (n + 1) (fill f11_0_sh [.i x1, .l x2, .l x3]) = f11_0_st N (fun x1 x2 x3 => roundsOf (E11 N) N11_0 0 B11_0 K n (fill f11_0_sh [.i x1, .l x2, .l x3])) (fun y1 y2 y3 y4 y5 y6 => K (X.ret) (fill f11_0_ex1 [.b y1, .b y2, .b y3, .i y4, .l y5, .l y6])) (fun y1 y2 y3 y4 => K (X.normal) (fill f11_0_ex2 [.b y1, .i y2, .l y3, .l y4])) x1 x2 x3 := by kernel_rfl
theorem f11_0_lp_eq {R : Type} (N : Nat) (K : X → AS → Option R) : ∀ (n : Nat) (x1 : Int) (x2 : List Int) (x3 : List Int), roundsOf (E11 N) N11_0 0 B11_0 K n (fill f11_0_sh [.i x1, .l x2, .l x3]) = f11_0_lp N (fun y1 y2 y3 y4 y5 y6 => K (X.ret) (fill f11_0_ex1 [.b y1, .b y2, .b y3, .i y4, .l y5, .l y6])) (fun y1 y2 y3 y4 => K (X.normal) (fill f11_0_ex2 [.b y1, .i y2, .l y3, .l y4])) n x1 x2 x3
  | 0, _, _, _ => rfl
  | n + 1, x1, x2, x3 => by
    rw [f11_0_st_eq, f11_0_lp, show (fun x1 x2 x3 => roundsOf (E11 N) N11_0 0 B11_0 K n (fill f11_0_sh [.i x1, .l x2, .l x3])) = f11_0_lp N (fun y1 y2 y3 y4 y5 y6 => K (X.ret) (fill f11_0_ex1 [.b y1, .b y2, .b y3, .i y4, .l y5, .l y6])) (fun y1 y2 y3 y4 => K (X.normal) (fill f11_0_ex2 [.b y1, .i y2, .l y3, .l y4])) n from by funext x1 x2 x3; exact f11_0_lp_eq N K n x1 x2 x3]
theorem f11_0_ok (N : Nat) (hlp : LoopsOk Tryz.prog (E11 N).lp B11_0) (hΓ : CtxOk Tryz.prog (E11 N).Γ) : LoopOk Tryz.prog (mkL N11_0 f11_0_sh (f11_0_F N)) 0 B11_0 := by
  refine loopOk_of (E := E11 N) thOk hΓ mixed hlp ?_
  intro R ls K r h
  unfold f11_0_F at h
  split at h
  · exact ⟨N, by rw [f11_0_lp_eq]; exact h⟩
  · cases h

theorem lok11_0 (N : Nat) (hΓ : CtxOk Tryz.prog []) : LoopOk Tryz.prog (mkL N11_0 f11_0_sh (f11_0_F N)) 0 B11_0 := f11_0_ok N (loopsOk_of (l := []) (by kernel_rfl) trivial) hΓ
theorem f11_contract (N : Nat) (hΓ : CtxOk Tryz.prog []) : Contract Tryz.prog 11 { sig := S11, impl := fun _ ds k => call (E11 N) S11 26 B11 R11 ds k } :=
  call_contract (E := E11 N) thOk hΓ mixed ok11.look ok11.body ok11.n ok11.rv ok11.name rfl (by decide) (loopsOk_of (l := [(0, B11_0)]) (by kernel_rfl) (allOk_cons (L := mkL N11_0 f11_0_sh (f11_0_F N)) rfl (lok11_0 N hΓ) trivial))
theorem f11_raw_eq {R : Type} (N : Nat) (xs : List Int) (ys : List Int) (k : List DV → Option R) : call (E11 N) S11 26 B11 R11 [.lst (.one .u8) 32 xs, .lst (.one .u8) 32 ys] k = f11_raw N xs ys k := by kernel_rfl
end Go.Proofs.YtogcijgklnfjjaaGreat

namespace Go.Proofs.YtogcijgklnfjjaaGreat
open Go Go.Eng
set_option maxRecDepth 100000
set_option linter.unusedVariables false

noncomputable def f192_raw {R : Type} (N : Nat) (x : Int) (y : Int) (k : List DV → Option R) : Option R :=
 let v0 : Int := shrI IntKind.u64 x 32;
let v1 : Int := shrI IntKind.u64 y 32;
let v2 : Int := IntKind.u64.wrap (v0 * v1);
let v3 : Int := andI IntKind.u64 y 4294967295;
let v4 : Int := IntKind.u64.wrap (v0 * v3);
let v5 : Int := andI IntKind.u64 x 4294967295;
let v6 : Int := IntKind.u64.wrap (v5 * v3);
let v7 : Int := shrI IntKind.u64 v6 32;
let v8 : Int := IntKind.u64.wrap (v4 + v7);
let v9 : Int := shrI IntKind.u64 v8 32;
let v10 : Int := IntKind.u64.wrap (v2 + v9);
let v11 : Int := andI IntKind.u64 v8 4294967295;
let v12 : Int := IntKind.u64.wrap (v5 * v1);
let v13 : Int := IntKind.u64.wrap (v11 + v12);
let v14 : Int := shrI IntKind.u64 v13 32;
let v15 : Int := IntKind.u64.wrap (v10 + v14);
let v16 : Int := IntKind.u64.wrap (x * y);
k [DV.v (SV.one (At.int IntKind.u64 v15)), DV.v (SV.one (At.int IntKind.u64 v16))]


noncomputable def E192 (N : Nat) : Env := { Θ := Th, Γ := [], K := K192, ν := N192, fuel := 0, lp := [] }


theorem f192_contract (N : Nat) (hΓ : CtxOk Tryz.prog []) : Contract Tryz.prog 192 { sig := S192, impl := fun _ ds k => call (E192 N) S192 51 B192 R192 ds k } :=
  call_contract (E := E192 N) thOk hΓ mixed ok192.look ok192.body ok192.n ok192.rv ok192.name rfl (by decide) (loopsOk_of (l := []) (by kernel_rfl) trivial)
theorem f192_raw_eq {R : Type} (N : Nat) (x : Int) (y : Int) (k : List DV → Option R) : call (E192 N) S192 51 B192 R192 [.v (.one (.int .u64 x)), .v (.one (.int .u64 y))] k = f192_raw N x y k := by kernel_rfl
end Go.Proofs.YtogcijgklnfjjaaGreat

namespace Go.Proofs.YtogcijgklnfjjaaGreat
open Go Go.Eng
set_option maxRecDepth 100000
set_option linter.unusedVariables false

noncomputable def f132_raw {R : Type} (N : Nat)  (k : List DV → Option R) : Option R :=
 let v0 : List Int := (List.replicate 4 0).set 0 6346243789798364141;
let v1 : List Int := v0.set 1 1503914060200516822;
let v2 : List Int := v1.set 2 0;
let v3 : List Int := v2.set 3 1152921504606846976;
k [DV.v (SV.one (At.ints IntKind.u64 4 v3))]


noncomputable def E132 (N : Nat) : Env := { Θ := Th, Γ := [], K := K132, ν := N132, fuel := 0, lp := [] }


theorem f132_contract (N : Nat) (hΓ : CtxOk Tryz.prog []) : Contract Tryz.prog 132 { sig := S132, impl := fun _ ds k => call (E132 N) S132 2 B132 R132 ds k } :=
  call_contract (E := E132 N) thOk hΓ mixed ok132.look ok132.body ok132.n ok132.rv ok132.name rfl (by decide) (loopsOk_of (l := []) (by kernel_rfl) trivial)
theorem f132_raw_eq {R : Type} (N : Nat)  (k : List DV → Option R) : call (E132 N) S132 2 B132 R132 [] k = f132_raw N  k := by kernel_rfl
end Go.Proofs.YtogcijgklnfjjaaGreat

namespace Go.Proofs.YtogcijgklnfjjaaGreat
open Go Go.Eng
set_option maxRecDepth 100000
set_option linter.unusedVariables false

noncomputable def f180_raw {R : Type} (N : Nat)  (k : List DV → Option R) : Option R :=
 let v0 : List Int := (List.replicate 4 0).set 0 11819153939886771969;
let v1 : List Int := v0.set 1 14991950615390032711;
let v2 : List Int := v1.set 2 14910419812499177061;
let v3 : List Int := v2.set 3 259310039853996605;
k [DV.v (SV.one (At.ints IntKind.u64 4 v3))]


noncomputable def E180 (N : Nat) : Env := { Θ := Th, Γ := [], K := K180, ν := N180, fuel := 0, lp := [] }


theorem f180_contract (N : Nat) (hΓ : CtxOk Tryz.prog []) : Contract Tryz.prog 180 { sig := S180, impl := fun _ ds k => call (E180 N) S180 2 B180 R180 ds k } :=
  call_contract (E := E180 N) thOk hΓ mixed ok180.look ok180.body ok180.n ok180.rv ok180.name rfl (by decide) (loopsOk_of (l := []) (by kernel_rfl) trivial)
theorem f180_raw_eq {R : Type} (N : Nat)  (k : List DV → Option R) : call (E180 N) S180 2 B180 R180 [] k = f180_raw N  k := by kernel_rfl
end Go.Proofs.YtogcijgklnfjjaaGreat

namespace Go.Eng
open Go

def atV : At → Value
  | .int k n => .int k n
  | _ => undef

theorem contract_ext {P : Program} {g : Nat} {fn : Func} {ent : Array Value → Sem Value} {impl : (R : Type) → List DV → (List DV → Option R) → Option R} {np nr : Nat}
    (hf : P.funcs[g]? = some fn) (hname : (fn.name == "runtime.NumGoroutine") = false) (hb : fn.body.isNone = true) (hn : Extern.findNext fn = none) (he : Extern.find fn = some ent)
    (h : ∀ R ds (k : List DV → Option R) r, impl R ds k = some r → ∃ (xs : List At) (os : List At), xs.length = np ∧ os.length = nr ∧ ds = xs.map (fun a => DV.v (.one a)) ∧ k (os.map fun a => DV.v (.one a)) = some r ∧
      (∀ a ∈ xs, ∃ k n, a = .int k n) ∧ (∀ a ∈ os, ∃ k n, a = .int k n) ∧
      ∀ w, (ent (xs.map atV).toArray).run P w = .ok (resVal (os.map atV)) w) :
    Contract P g { sig := { ps := List.replicate np .val, rs := List.replicate nr .val }, impl := impl } := by
  intro R ds k r hk
  obtain ⟨xs, os, l1, l2, rfl, h2, h3, h4, h5⟩ := h R ds k r hk
  refine ⟨_, h2, fun w vs ℓ τ hA => .inr ⟨resVal (os.map atV), ?_, ?_⟩⟩
  · have hv : vs = xs.map atV := by
      apply List.ext_getElem?
      intro i
      have lv := hA.lenV
      simp only [List.length_replicate] at lv
      by_cases hi : i < np
      · have hx : xs[i]? = some (xs[i]'(by omega)) := List.getElem?_eq_getElem (by omega)
        have hvi : vs[i]? = some (vs[i]'(by omega)) := List.getElem?_eq_getElem (by omega)
        have := hA.each i .val _ _ (by simp [hi]) (by rw [List.getElem?_map, hx]; rfl) hvi
        obtain ⟨kk, nn, e⟩ := h3 _ (List.getElem_mem (show i < xs.length by omega))
        rw [hvi, List.getElem?_map, hx]
        simp only [Option.map_some, e] at this ⊢
        obtain ⟨_, hr, _⟩ := this
        simp only [RelSV, RelAt, List.cons.injEq, and_true] at hr
        rw [hr]; rfl
      · rw [List.getElem?_eq_none (by omega), List.getElem?_eq_none (by rw [List.length_map]; omega)]
    rw [run_callFunc_extern hf hname hb hn he, hv, h5]
    rfl
  · have hmut : ∀ (m i : Nat) (ys : List At), MutRel w ℓ i (List.replicate m .val) (ys.map fun a => DV.v (.one a)) [] ∨ ys.length ≠ m := by
      intro m
      induction m with
      | zero =>
        intro i ys
        cases ys with
        | nil => exact .inl rfl
        | cons _ _ => right; simp
      | succ m ih =>
        intro i ys
        cases ys with
        | nil => right; simp
        | cons y ys =>
          rcases ih (i + 1) ys with h | h
          · exact .inl h
          · right; simpa using h
    refine ⟨⟨os.map atV, os.map (fun a => DV.v (.one a)), [], fun _ => none, fun _ => 0, rfl, by simp, by simp [l2], by simp [l2], ?_, ?_, ?_, ?_⟩, Nat.le_refl _, fun _ _ _ => rfl, rfl, rfl⟩
    · intro j rm o x h1 h6 h7
      simp only [List.getElem?_replicate] at h1
      split at h1
      · rename_i hj
        injection h1 with h1; subst h1
        have ho : os[j]? = some (os[j]'(by omega)) := List.getElem?_eq_getElem (by omega)
        obtain ⟨kk, nn, e⟩ := h4 _ (List.getElem_mem (show j < os.length by omega))
        rw [List.getElem?_map, ho, Option.map_some] at h6 h7
        injection h6 with h6; injection h7 with h7; subst h6; subst h7
        rw [e]
        exact ⟨rfl, rfl, rfl⟩
      · cases h1
    · intro j q hq; cases hq
    · intro i j q r _ hq; cases hq
    · rcases hmut np 0 xs with h | h
      · exact h
      · exact absurd l1 h

def addLo (x y c : Int) : Int := (x.toNat + y.toNat + c.toNat : Nat) % 18446744073709551616
def addHi (x y c : Int) : Int := (x.toNat + y.toNat + c.toNat : Nat) / 18446744073709551616

def IAdd64 : (R : Type) → List DV → (List DV → Option R) → Option R := fun _ ds k => match ds with
  | [.v (.one (.int .u64 x)), .v (.one (.int .u64 y)), .v (.one (.int .u64 c))] => cond (decide (c = 0) || decide (c = 1)) (k [.v (.one (.int .u64 (addLo x y c))), .v (.one (.int .u64 (addHi x y c)))]) none
  | _ => none

theorem contract_add64 {P : Program} {g : Nat} {fn : Func} (hf : P.funcs[g]? = some fn) (hname : (fn.name == "runtime.NumGoroutine") = false) (hb : fn.body.isNone = true) (hn : Extern.findNext fn = none) (he : Extern.find fn = some add64Entry) :
    Contract P g { sig := { ps := [.val, .val, .val], rs := [.val, .val] }, impl := IAdd64 } := by
  refine contract_ext (np := 3) (nr := 2) hf hname hb hn he ?_
  intro R ds k r h
  unfold IAdd64 at h
  split at h
  · rename_i x y c
    cases hc : (decide (c = 0) || decide (c = 1)) with
    | false => rw [hc] at h; cases h
    | true =>
      rw [hc] at h
      rw [Bool.or_eq_true, decide_eq_true_eq, decide_eq_true_eq] at hc
      refine ⟨[.int .u64 x, .int .u64 y, .int .u64 c], [.int .u64 (addLo x y c), .int .u64 (addHi x y c)], rfl, rfl, rfl, h, by simp, by simp, fun w => ?_⟩
      rcases hc with rfl | rfl <;> rfl
  · cases h


def sub64Entry : Array Value → Sem Value := fun args => do
  let (x, y, b) ← Extern.MathBitsCarry.three "Sub64" args
  pure (Extern.MathBitsCarry.pair ((x + Extern.MathBitsCarry.m64 - y - b) % Extern.MathBitsCarry.m64) (if x < y + b then 1 else 0))

def subLo (x y c : Int) : Int := ((x.toNat + 18446744073709551616 - y.toNat - c.toNat) % 18446744073709551616 : Nat)
def subHi (x y c : Int) : Int := cond (Nat.blt x.toNat (y.toNat + c.toNat)) 1 0

def ISub64 : (R : Type) → List DV → (List DV → Option R) → Option R := fun _ ds k => match ds with
  | [.v (.one (.int .u64 x)), .v (.one (.int .u64 y)), .v (.one (.int .u64 c))] => cond (decide (c = 0) || decide (c = 1)) (k [.v (.one (.int .u64 (subLo x y c))), .v (.one (.int .u64 (subHi x y c)))]) none
  | _ => none

theorem contract_sub64 {P : Program} {g : Nat} {fn : Func} (hf : P.funcs[g]? = some fn) (hname : (fn.name == "runtime.NumGoroutine") = false) (hb : fn.body.isNone = true) (hn : Extern.findNext fn = none) (he : Extern.find fn = some sub64Entry) :
    Contract P g { sig := { ps := [.val, .val, .val], rs := [.val, .val] }, impl := ISub64 } := by
  refine contract_ext (np := 3) (nr := 2) hf hname hb hn he ?_
  intro R ds k r h
  unfold ISub64 at h
  split at h
  · rename_i x y c
    cases hc : (decide (c = 0) || decide (c = 1)) with
    | false => rw [hc] at h; cases h
    | true =>
      rw [hc] at h
      rw [Bool.or_eq_true, decide_eq_true_eq, decide_eq_true_eq] at hc
      refine ⟨[.int .u64 x, .int .u64 y, .int .u64 c], [.int .u64 (subLo x y c), .int .u64 (subHi x y c)], rfl, rfl, rfl, h, by simp, by simp, fun w => ?_⟩
      have e : ∀ c : Int, (if x.toNat < y.toNat + c.toNat then 1 else 0 : Nat) = (subHi x y c).toNat ∧ 0 ≤ subHi x y c := by
        intro c
        unfold subHi
        by_cases hb : x.toNat < y.toNat + c.toNat
        · rw [if_pos hb, show Nat.blt x.toNat (y.toNat + c.toNat) = true from Nat.ble_eq_true_of_le hb]; exact ⟨rfl, by decide⟩
        · rw [if_neg hb]
          have : Nat.blt x.toNat (y.toNat + c.toNat) = false := by
            cases h : Nat.blt x.toNat (y.toNat + c.toNat)
            · rfl
            · exact absurd (Nat.le_of_ble_eq_true h) hb
          rw [this]; exact ⟨rfl, by decide⟩
      have fin : ∀ c : Int, (sub64Entry #[.int .u64 x, .int .u64 y, .int .u64 c]).run P w = .ok (Extern.MathBitsCarry.pair ((x.toNat + Extern.MathBitsCarry.m64 - y.toNat - c.toNat) % Extern.MathBitsCarry.m64) (if x.toNat < y.toNat + c.toNat then 1 else 0)) w →
          (sub64Entry #[.int .u64 x, .int .u64 y, .int .u64 c]).run P w = .ok (.tuple #[.int .u64 (subLo x y c), .int .u64 (subHi x y c)]) w := by
        intro c h
        rw [h]
        unfold Extern.MathBitsCarry.pair
        obtain ⟨e1, e2⟩ := e c
        rw [e1, show Int.ofNat (subHi x y c).toNat = subHi x y c from Int.toNat_of_nonneg e2]
        rfl
      rcases hc with rfl | rfl
      · exact fin 0 rfl
      · exact fin 1 rfl
  · cases h

end Go.Eng

namespace Go.Proofs.YtogcijgklnfjjaaGreat
open Go Go.Eng
set_option maxRecDepth 100000

def ansI (o : Option (List DV)) (i : Nat) : Int := match o with
  | some l => match l[i]? with | some (.v (.one (.int _ n))) => n | _ => 0
  | none => 0
def ansL (o : Option (List DV)) (i : Nat) : List Int := match o with
  | some l => match l[i]? with | some (.v (.one (.ints _ _ n))) => n | _ => []
  | none => []

noncomputable def mulHi (x y : Int) : Int := ansI (f192_raw 0 x y some) 0
def mulLo (x y : Int) : Int := IntKind.u64.wrap (x * y)

noncomputable def I192 : (R : Type) → List DV → (List DV → Option R) → Option R := fun _ ds k => match ds with
  | [.v (.one (.int .u64 x)), .v (.one (.int .u64 y))] => k [.v (.one (.int .u64 (mulHi x y))), .v (.one (.int .u64 (mulLo x y)))]
  | _ => none

theorem c192 : Contract Tryz.prog 192 { sig := S192, impl := I192 } := by
  refine Contract.refine fun R ds k r h => ⟨_, f192_contract 0 ctxOk_nil, ?_⟩
  unfold I192 at h
  split at h
  · rw [f192_raw_eq]; exact h
  · cases h

def SV33 : Sig := { ps := [.val, .val, .val], rs := [.val, .val] }
theorem c157 : Contract Tryz.prog 157 { sig := SV33, impl := IAdd64 } :=
  contract_add64 Tryz.func157 (by decide +kernel) (by kernel_rfl) (by kernel_rfl) (by kernel_rfl)
theorem c181 : Contract Tryz.prog 181 { sig := SV33, impl := ISub64 } :=
  contract_sub64 Tryz.func181 (by decide +kernel) (by kernel_rfl) (by kernel_rfl) (by kernel_rfl)

def ordW : List Int := [6346243789798364141, 1503914060200516822, 0, 1152921504606846976]
def radW : List Int := [11819153939886771969, 14991950615390032711, 14910419812499177061, 259310039853996605]
def I132 : (R : Type) → List DV → (List DV → Option R) → Option R := fun _ ds k => match ds with
  | [] => k [.v (.one (.ints .u64 4 ordW))]
  | _ => none
theorem c132 : Contract Tryz.prog 132 { sig := S132, impl := I132 } := by
  refine Contract.refine fun R ds k r h => ⟨_, f132_contract 0 ctxOk_nil, ?_⟩
  unfold I132 at h
  split at h
  · rw [f132_raw_eq]; exact h
  · cases h
def I180 : (R : Type) → List DV → (List DV → Option R) → Option R := fun _ ds k => match ds with
  | [] => k [.v (.one (.ints .u64 4 radW))]
  | _ => none
theorem c180 : Contract Tryz.prog 180 { sig := S180, impl := I180 } := by
  refine Contract.refine fun R ds k r h => ⟨_, f180_contract 0 ctxOk_nil, ?_⟩
  unfold I180 at h
  split at h
  · rw [f180_raw_eq]; exact h
  · cases h

noncomputable def G102 : Ctx := [(192, { sig := S192, impl := I192 }), (157, { sig := SV33, impl := IAdd64 })]
theorem G102_ok : CtxOk Tryz.prog G102 := ctxOk_cons ok192 rfl c192 (ctxOk_ext rfl c157 ctxOk_nil)
def G56 : Ctx := [(181, { sig := SV33, impl := ISub64 })]
theorem G56_ok : CtxOk Tryz.prog G56 := ctxOk_ext rfl c181 ctxOk_nil
end Go.Proofs.YtogcijgklnfjjaaGreat

namespace Go.Proofs.YtogcijgklnfjjaaGreat
open Go Go.Eng
set_option maxRecDepth 100000
set_option linter.unusedVariables false

noncomputable def f190_raw {R : Type} (N : Nat) (x : Int) (y : Int) (z : Int) (c : Int) (k : List DV → Option R) : Option R :=
 let v0 : Int := IntKind.u64.wrap (mulHi x y + addHi (mulLo x y) z 0);
let v1 : Int := IntKind.u64.wrap (v0 + addHi (addLo (mulLo x y) z 0) c 0);
k [DV.v (SV.one (At.int IntKind.u64 v1)), DV.v (SV.one (At.int IntKind.u64 (addLo (addLo (mulLo x y) z 0) c 0)))]


noncomputable def E190 (N : Nat) : Env := { Θ := Th, Γ := G102, K := K190, ν := N190, fuel := 0, lp := [] }


theorem f190_contract (N : Nat) (hΓ : CtxOk Tryz.prog G102) : Contract Tryz.prog 190 { sig := S190, impl := fun _ ds k => call (E190 N) S190 38 B190 R190 ds k } :=
  call_contract (E := E190 N) thOk hΓ mixed ok190.look ok190.body ok190.n ok190.rv ok190.name rfl (by decide) (loopsOk_of (l := []) (by kernel_rfl) trivial)
theorem f190_raw_eq {R : Type} (N : Nat) (x : Int) (y : Int) (z : Int) (c : Int) (k : List DV → Option R) : call (E190 N) S190 38 B190 R190 [.v (.one (.int .u64 x)), .v (.one (.int .u64 y)), .v (.one (.int .u64 z)), .v (.one (.int .u64 c))] k = f190_raw N x y z c k := by kernel_rfl
end Go.Proofs.YtogcijgklnfjjaaGreat

namespace Go.Proofs.YtogcijgklnfjjaaGreat
open Go Go.Eng
set_option maxRecDepth 100000
set_option linter.unusedVariables false

noncomputable def f131_raw {R : Type} (N : Nat) (x : List Int) (y : List Int) (k : List DV → Option R) : Option R :=
 bif Decidable.decide (subHi (x.getD (mulE (Int.toNat 0) 1) 0) (y.getD (mulE (Int.toNat 0) 1) 0) 0 = 0) || Decidable.decide (subHi (x.getD (mulE (Int.toNat 0) 1) 0) (y.getD (mulE (Int.toNat 0) 1) 0) 0 = 1) then
 let v0 : Int := IntKind.i64.wrap (0 + 1);
 bif Decidable.decide (subHi (x.getD (mulE v0.toNat 1) 0) (y.getD (mulE v0.toNat 1) 0) (subHi (x.getD (mulE (Int.toNat 0) 1) 0) (y.getD (mulE (Int.toNat 0) 1) 0) 0) = 0) || Decidable.decide (subHi (x.getD (mulE v0.toNat 1) 0) (y.getD (mulE v0.toNat 1) 0) (subHi (x.getD (mulE (Int.toNat 0) 1) 0) (y.getD (mulE (Int.toNat 0) 1) 0) 0) = 1) then
 let v1 : Int := IntKind.i64.wrap (v0 + 1);
 bif Decidable.decide (subHi (x.getD (mulE v1.toNat 1) 0) (y.getD (mulE v1.toNat 1) 0) (subHi (x.getD (mulE v0.toNat 1) 0) (y.getD (mulE v0.toNat 1) 0) (subHi (x.getD (mulE (Int.toNat 0) 1) 0) (y.getD (mulE (Int.toNat 0) 1) 0) 0)) = 0) || Decidable.decide (subHi (x.getD (mulE v1.toNat 1) 0) (y.getD (mulE v1.toNat 1) 0) (subHi (x.getD (mulE v0.toNat 1) 0) (y.getD (mulE v0.toNat 1) 0) (subHi (x.getD (mulE (Int.toNat 0) 1) 0) (y.getD (mulE (Int.toNat 0) 1) 0) 0)) = 1) then
 let v2 : List Int := (List.replicate 4 0).set (mulE (Int.toNat 0) 1) (subLo (x.getD (mulE (Int.toNat 0) 1) 0) (y.getD (mulE (Int.toNat 0) 1) 0) 0);
 let v3 : List Int := v2.set (mulE v0.toNat 1) (subLo (x.getD (mulE v0.toNat 1) 0) (y.getD (mulE v0.toNat 1) 0) (subHi (x.getD (mulE (Int.toNat 0) 1) 0) (y.getD (mulE (Int.toNat 0) 1) 0) 0));
 let v4 : List Int := v3.set (mulE v1.toNat 1) (subLo (x.getD (mulE v1.toNat 1) 0) (y.getD (mulE v1.toNat 1) 0) (subHi (x.getD (mulE v0.toNat 1) 0) (y.getD (mulE v0.toNat 1) 0) (subHi (x.getD (mulE (Int.toNat 0) 1) 0) (y.getD (mulE (Int.toNat 0) 1) 0) 0)));
 let v5 : Int := IntKind.i64.wrap (v1 + 1);
 let v6 : List Int := v4.set (mulE v5.toNat 1) (subLo (x.getD (mulE v5.toNat 1) 0) (y.getD (mulE v5.toNat 1) 0) (subHi (x.getD (mulE v1.toNat 1) 0) (y.getD (mulE v1.toNat 1) 0) (subHi (x.getD (mulE v0.toNat 1) 0) (y.getD (mulE v0.toNat 1) 0) (subHi (x.getD (mulE (Int.toNat 0) 1) 0) (y.getD (mulE (Int.toNat 0) 1) 0) 0))));
 k [DV.v (SV.one (At.ints IntKind.u64 4 v6)), DV.v (SV.one (At.int IntKind.u64 (subHi (x.getD (mulE v5.toNat 1) 0) (y.getD (mulE v5.toNat 1) 0) (subHi (x.getD (mulE v1.toNat 1) 0) (y.getD (mulE v1.toNat 1) 0) (subHi (x.getD (mulE v0.toNat 1) 0) (y.getD (mulE v0.toNat 1) 0) (subHi (x.getD (mulE (Int.toNat 0) 1) 0) (y.getD (mulE (Int.toNat 0) 1) 0) 0))))))]
 else Option.none
 else Option.none
else Option.none


noncomputable def E131 (N : Nat) : Env := { Θ := Th, Γ := G56, K := K131, ν := N131, fuel := 20, lp := [] }


theorem f131_contract (N : Nat) (hΓ : CtxOk Tryz.prog G56) : Contract Tryz.prog 131 { sig := S131, impl := fun _ ds k => call (E131 N) S131 28 B131 R131 ds k } :=
  call_contract (E := E131 N) thOk hΓ mixed ok131.look ok131.body ok131.n ok131.rv ok131.name rfl (by decide) (loopsOk_of (l := [(0, B131_0)]) (by kernel_rfl) (allOk_skip rfl trivial))
theorem f131_raw_eq {R : Type} (N : Nat) (x : List Int) (y : List Int) (k : List DV → Option R) : call (E131 N) S131 28 B131 R131 [.v (.one (.ints .u64 4 x)), .v (.one (.ints .u64 4 y))] k = f131_raw N x y k := by kernel_rfl
end Go.Proofs.YtogcijgklnfjjaaGreat

namespace Go.Proofs.YtogcijgklnfjjaaGreat
open Go Go.Eng
set_option maxRecDepth 100000
set_option linter.unusedVariables false

noncomputable def f114_raw {R : Type} (N : Nat) (x : List Int) (k : List DV → Option R) : Option R :=
 let v0 : Int := IntKind.i64.wrap (Int.tdiv 0 8);
let v1 : Int := IntKind.i64.wrap (8 * Int.tmod 0 8);
let v2 : Int := shrI IntKind.u64 (x.getD (mulE v0.toNat 1) 0) v1;
let v3 : Int := IntKind.u8.wrap v2;
let v4 : List Int := (List.replicate 32 0).set (mulE (Int.toNat 0) 1) v3;
let v5 : Int := IntKind.i64.wrap (0 + 1);
let v6 : Int := IntKind.i64.wrap (v5.tdiv 8);
let v7 : Int := IntKind.i64.wrap (8 * v5.tmod 8);
let v8 : Int := shrI IntKind.u64 (x.getD (mulE v6.toNat 1) 0) v7;
let v9 : Int := IntKind.u8.wrap v8;
let v10 : List Int := v4.set (mulE v5.toNat 1) v9;
let v11 : Int := IntKind.i64.wrap (v5 + 1);
let v12 : Int := IntKind.i64.wrap (v11.tdiv 8);
let v13 : Int := IntKind.i64.wrap (8 * v11.tmod 8);
let v14 : Int := shrI IntKind.u64 (x.getD (mulE v12.toNat 1) 0) v13;
let v15 : Int := IntKind.u8.wrap v14;
let v16 : List Int := v10.set (mulE v11.toNat 1) v15;
let v17 : Int := IntKind.i64.wrap (v11 + 1);
let v18 : Int := IntKind.i64.wrap (v17.tdiv 8);
let v19 : Int := IntKind.i64.wrap (8 * v17.tmod 8);
let v20 : Int := shrI IntKind.u64 (x.getD (mulE v18.toNat 1) 0) v19;
let v21 : Int := IntKind.u8.wrap v20;
let v22 : List Int := v16.set (mulE v17.toNat 1) v21;
let v23 : Int := IntKind.i64.wrap (v17 + 1);
let v24 : Int := IntKind.i64.wrap (v23.tdiv 8);
let v25 : Int := IntKind.i64.wrap (8 * v23.tmod 8);
let v26 : Int := shrI IntKind.u64 (x.getD (mulE v24.toNat 1) 0) v25;
let v27 : Int := IntKind.u8.wrap v26;
let v28 : List Int := v22.set (mulE v23.toNat 1) v27;
let v29 : Int := IntKind.i64.wrap (v23 + 1);
let v30 : Int := IntKind.i64.wrap (v29.tdiv 8);
let v31 : Int := IntKind.i64.wrap (8 * v29.tmod 8);
let v32 : Int := shrI IntKind.u64 (x.getD (mulE v30.toNat 1) 0) v31;
let v33 : Int := IntKind.u8.wrap v32;
let v34 : List Int := v28.set (mulE v29.toNat 1) v33;
let v35 : Int := IntKind.i64.wrap (v29 + 1);
let v36 : Int := IntKind.i64.wrap (v35.tdiv 8);
let v37 : Int := IntKind.i64.wrap (8 * v35.tmod 8);
let v38 : Int := shrI IntKind.u64 (x.getD (mulE v36.toNat 1) 0) v37;
let v39 : Int := IntKind.u8.wrap v38;
let v40 : List Int := v34.set (mulE v35.toNat 1) v39;
let v41 : Int := IntKind.i64.wrap (v35 + 1);
let v42 : Int := IntKind.i64.wrap (v41.tdiv 8);
let v43 : Int := IntKind.i64.wrap (8 * v41.tmod 8);
let v44 : Int := shrI IntKind.u64 (x.getD (mulE v42.toNat 1) 0) v43;
let v45 : Int := IntKind.u8.wrap v44;
let v46 : List Int := v40.set (mulE v41.toNat 1) v45;
let v47 : Int := IntKind.i64.wrap (v41 + 1);
let v48 : Int := IntKind.i64.wrap (v47.tdiv 8);
let v49 : Int := IntKind.i64.wrap (8 * v47.tmod 8);
let v50 : Int := shrI IntKind.u64 (x.getD (mulE v48.toNat 1) 0) v49;
let v51 : Int := IntKind.u8.wrap v50;
let v52 : List Int := v46.set (mulE v47.toNat 1) v51;
let v53 : Int := IntKind.i64.wrap (v47 + 1);
let v54 : Int := IntKind.i64.wrap (v53.tdiv 8);
let v55 : Int := IntKind.i64.wrap (8 * v53.tmod 8);
let v56 : Int := shrI IntKind.u64 (x.getD (mulE v54.toNat 1) 0) v55;
let v57 : Int := IntKind.u8.wrap v56;
let v58 : List Int := v52.set (mulE v53.toNat 1) v57;
let v59 : Int := IntKind.i64.wrap (v53 + 1);
let v60 : Int := IntKind.i64.wrap (v59.tdiv 8);
let v61 : Int := IntKind.i64.wrap (8 * v59.tmod 8);
let v62 : Int := shrI IntKind.u64 (x.getD (mulE v60.toNat 1) 0) v61;
let v63 : Int := IntKind.u8.wrap v62;
let v64 : List Int := v58.set (mulE v59.toNat 1) v63;
let v65 : Int := IntKind.i64.wrap (v59 + 1);
let v66 : Int := IntKind.i64.wrap (v65.tdiv 8);
let v67 : Int := IntKind.i64.wrap (8 * v65.tmod 8);
let v68 : Int := shrI IntKind.u64 (x.getD (mulE v66.toNat 1) 0) v67;
let v69 : Int := IntKind.u8.wrap v68;
let v70 : List Int := v64.set (mulE v65.toNat 1) v69;
let v71 : Int := IntKind.i64.wrap (v65 + 1);
let v72 : Int := IntKind.i64.wrap (v71.tdiv 8);
let v73 : Int := IntKind.i64.wrap (8 * v71.tmod 8);
let v74 : Int := shrI IntKind.u64 (x.getD (mulE v72.toNat 1) 0) v73;
let v75 : Int := IntKind.u8.wrap v74;
let v76 : List Int := v70.set (mulE v71.toNat 1) v75;
let v77 : Int := IntKind.i64.wrap (v71 + 1);
let v78 : Int := IntKind.i64.wrap (v77.tdiv 8);
let v79 : Int := IntKind.i64.wrap (8 * v77.tmod 8);
let v80 : Int := shrI IntKind.u64 (x.getD (mulE v78.toNat 1) 0) v79;
let v81 : Int := IntKind.u8.wrap v80;
let v82 : List Int := v76.set (mulE v77.toNat 1) v81;
let v83 : Int := IntKind.i64.wrap (v77 + 1);
let v84 : Int := IntKind.i64.wrap (v83.tdiv 8);
let v85 : Int := IntKind.i64.wrap (8 * v83.tmod 8);
let v86 : Int := shrI IntKind.u64 (x.getD (mulE v84.toNat 1) 0) v85;
let v87 : Int := IntKind.u8.wrap v86;
let v88 : List Int := v82.set (mulE v83.toNat 1) v87;
let v89 : Int := IntKind.i64.wrap (v83 + 1);
let v90 : Int := IntKind.i64.wrap (v89.tdiv 8);
let v91 : Int := IntKind.i64.wrap (8 * v89.tmod 8);
let v92 : Int := shrI IntKind.u64 (x.getD (mulE v90.toNat 1) 0) v91;
let v93 : Int := IntKind.u8.wrap v92;
let v94 : List Int := v88.set (mulE v89.toNat 1) v93;
let v95 : Int := IntKind.i64.wrap (v89 + 1);
let v96 : Int := IntKind.i64.wrap (v95.tdiv 8);
let v97 : Int := IntKind.i64.wrap (8 * v95.tmod 8);
let v98 : Int := shrI IntKind.u64 (x.getD (mulE v96.toNat 1) 0) v97;
let v99 : Int := IntKind.u8.wrap v98;
let v100 : List Int := v94.set (mulE v95.toNat 1) v99;
let v101 : Int := IntKind.i64.wrap (v95 + 1);
let v102 : Int := IntKind.i64.wrap (v101.tdiv 8);
let v103 : Int := IntKind.i64.wrap (8 * v101.tmod 8);
let v104 : Int := shrI IntKind.u64 (x.getD (mulE v102.toNat 1) 0) v103;
let v105 : Int := IntKind.u8.wrap v104;
let v106 : List Int := v100.set (mulE v101.toNat 1) v105;
let v107 : Int := IntKind.i64.wrap (v101 + 1);
let v108 : Int := IntKind.i64.wrap (v107.tdiv 8);
let v109 : Int := IntKind.i64.wrap (8 * v107.tmod 8);
let v110 : Int := shrI IntKind.u64 (x.getD (mulE v108.toNat 1) 0) v109;
let v111 : Int := IntKind.u8.wrap v110;
let v112 : List Int := v106.set (mulE v107.toNat 1) v111;
let v113 : Int := IntKind.i64.wrap (v107 + 1);
let v114 : Int := IntKind.i64.wrap (v113.tdiv 8);
let v115 : Int := IntKind.i64.wrap (8 * v113.tmod 8);
let v116 : Int := shrI IntKind.u64 (x.getD (mulE v114.toNat 1) 0) v115;
let v117 : Int := IntKind.u8.wrap v116;
let v118 : List Int := v112.set (mulE v113.toNat 1) v117;
let v119 : Int := IntKind.i64.wrap (v113 + 1);
let v120 : Int := IntKind.i64.wrap (v119.tdiv 8);
let v121 : Int := IntKind.i64.wrap (8 * v119.tmod 8);
let v122 : Int := shrI IntKind.u64 (x.getD (mulE v120.toNat 1) 0) v121;
let v123 : Int := IntKind.u8.wrap v122;
let v124 : List Int := v118.set (mulE v119.toNat 1) v123;
let v125 : Int := IntKind.i64.wrap (v119 + 1);
let v126 : Int := IntKind.i64.wrap (v125.tdiv 8);
let v127 : Int := IntKind.i64.wrap (8 * v125.tmod 8);
let v128 : Int := shrI IntKind.u64 (x.getD (mulE v126.toNat 1) 0) v127;
let v129 : Int := IntKind.u8.wrap v128;
let v130 : List Int := v124.set (mulE v125.toNat 1) v129;
let v131 : Int := IntKind.i64.wrap (v125 + 1);
let v132 : Int := IntKind.i64.wrap (v131.tdiv 8);
let v133 : Int := IntKind.i64.wrap (8 * v131.tmod 8);
let v134 : Int := shrI IntKind.u64 (x.getD (mulE v132.toNat 1) 0) v133;
let v135 : Int := IntKind.u8.wrap v134;
let v136 : List Int := v130.set (mulE v131.toNat 1) v135;
let v137 : Int := IntKind.i64.wrap (v131 + 1);
let v138 : Int := IntKind.i64.wrap (v137.tdiv 8);
let v139 : Int := IntKind.i64.wrap (8 * v137.tmod 8);
let v140 : Int := shrI IntKind.u64 (x.getD (mulE v138.toNat 1) 0) v139;
let v141 : Int := IntKind.u8.wrap v140;
let v142 : List Int := v136.set (mulE v137.toNat 1) v141;
let v143 : Int := IntKind.i64.wrap (v137 + 1);
let v144 : Int := IntKind.i64.wrap (v143.tdiv 8);
let v145 : Int := IntKind.i64.wrap (8 * v143.tmod 8);
let v146 : Int := shrI IntKind.u64 (x.getD (mulE v144.toNat 1) 0) v145;
let v147 : Int := IntKind.u8.wrap v146;
let v148 : List Int := v142.set (mulE v143.toNat 1) v147;
let v149 : Int := IntKind.i64.wrap (v143 + 1);
let v150 : Int := IntKind.i64.wrap (v149.tdiv 8);
let v151 : Int := IntKind.i64.wrap (8 * v149.tmod 8);
let v152 : Int := shrI IntKind.u64 (x.getD (mulE v150.toNat 1) 0) v151;
let v153 : Int := IntKind.u8.wrap v152;
let v154 : List Int := v148.set (mulE v149.toNat 1) v153;
let v155 : Int := IntKind.i64.wrap (v149 + 1);
let v156 : Int := IntKind.i64.wrap (v155.tdiv 8);
let v157 : Int := IntKind.i64.wrap (8 * v155.tmod 8);
let v158 : Int := shrI IntKind.u64 (x.getD (mulE v156.toNat 1) 0) v157;
let v159 : Int := IntKind.u8.wrap v158;
let v160 : List Int := v154.set (mulE v155.toNat 1) v159;
let v161 : Int := IntKind.i64.wrap (v155 + 1);
let v162 : Int := IntKind.i64.wrap (v161.tdiv 8);
let v163 : Int := IntKind.i64.wrap (8 * v161.tmod 8);
let v164 : Int := shrI IntKind.u64 (x.getD (mulE v162.toNat 1) 0) v163;
let v165 : Int := IntKind.u8.wrap v164;
let v166 : List Int := v160.set (mulE v161.toNat 1) v165;
let v167 : Int := IntKind.i64.wrap (v161 + 1);
let v168 : Int := IntKind.i64.wrap (v167.tdiv 8);
let v169 : Int := IntKind.i64.wrap (8 * v167.tmod 8);
let v170 : Int := shrI IntKind.u64 (x.getD (mulE v168.toNat 1) 0) v169;
let v171 : Int := IntKind.u8.wrap v170;
let v172 : List Int := v166.set (mulE v167.toNat 1) v171;
let v173 : Int := IntKind.i64.wrap (v167 + 1);
let v174 : Int := IntKind.i64.wrap (v173.tdiv 8);
let v175 : Int := IntKind.i64.wrap (8 * v173.tmod 8);
let v176 : Int := shrI IntKind.u64 (x.getD (mulE v174.toNat 1) 0) v175;
let v177 : Int := IntKind.u8.wrap v176;
let v178 : List Int := v172.set (mulE v173.toNat 1) v177;
let v179 : Int := IntKind.i64.wrap (v173 + 1);
let v180 : Int := IntKind.i64.wrap (v179.tdiv 8);
let v181 : Int := IntKind.i64.wrap (8 * v179.tmod 8);
let v182 : Int := shrI IntKind.u64 (x.getD (mulE v180.toNat 1) 0) v181;
let v183 : Int := IntKind.u8.wrap v182;
let v184 : List Int := v178.set (mulE v179.toNat 1) v183;
let v185 : Int := IntKind.i64.wrap (v179 + 1);
let v186 : Int := IntKind.i64.wrap (v185.tdiv 8);
let v187 : Int := IntKind.i64.wrap (8 * v185.tmod 8);
let v188 : Int := shrI IntKind.u64 (x.getD (mulE v186.toNat 1) 0) v187;
let v189 : Int := IntKind.u8.wrap v188;
let v190 : List Int := v184.set (mulE v185.toNat 1) v189;
k [DV.v (SV.one (At.ints IntKind.u8 32 v190))]


noncomputable def E114 (N : Nat) : Env := { Θ := Th, Γ := [], K := K114, ν := N114, fuel := 60, lp := [] }


theorem f114_contract (N : Nat) (hΓ : CtxOk Tryz.prog []) : Contract Tryz.prog 114 { sig := S114, impl := fun _ ds k => call (E114 N) S114 21 B114 R114 ds k } :=
  call_contract (E := E114 N) thOk hΓ mixed ok114.look ok114.body ok114.n ok114.rv ok114.name rfl (by decide) (loopsOk_of (l := [(0, B114_0)]) (by kernel_rfl) (allOk_skip rfl trivial))
theorem f114_raw_eq {R : Type} (N : Nat) (x : List Int) (k : List DV → Option R) : call (E114 N) S114 21 B114 R114 [.v (.one (.ints .u64 4 x))] k = f114_raw N x k := by kernel_rfl
end Go.Proofs.YtogcijgklnfjjaaGreat

namespace Go.Proofs.YtogcijgklnfjjaaGreat
open Go Go.Eng
set_option maxRecDepth 100000
set_option linter.unusedVariables false

noncomputable def f159_raw {R : Type} (N : Nat) (x : List Int) (k : List DV → Option R) : Option R :=
 let v0 : Int := IntKind.i64.wrap (Int.tdiv 0 8);
let v1 : Int := IntKind.u64.wrap (x.getD (mulE (Int.toNat 0) 1) 0);
let v2 : Int := IntKind.i64.wrap (8 * Int.tmod 0 8);
let v3 : Int := shlI IntKind.u64 v1 v2;
let v4 : Int := orI IntKind.u64 ((List.replicate 4 0).getD (mulE v0.toNat 1) 0) v3;
let v5 : List Int := (List.replicate 4 0).set (mulE v0.toNat 1) v4;
let v6 : Int := IntKind.i64.wrap (0 + 1);
let v7 : Int := IntKind.i64.wrap (v6.tdiv 8);
let v8 : Int := IntKind.u64.wrap (x.getD (mulE v6.toNat 1) 0);
let v9 : Int := IntKind.i64.wrap (8 * v6.tmod 8);
let v10 : Int := shlI IntKind.u64 v8 v9;
let v11 : Int := orI IntKind.u64 (v5.getD (mulE v7.toNat 1) 0) v10;
let v12 : List Int := v5.set (mulE v7.toNat 1) v11;
let v13 : Int := IntKind.i64.wrap (v6 + 1);
let v14 : Int := IntKind.i64.wrap (v13.tdiv 8);
let v15 : Int := IntKind.u64.wrap (x.getD (mulE v13.toNat 1) 0);
let v16 : Int := IntKind.i64.wrap (8 * v13.tmod 8);
let v17 : Int := shlI IntKind.u64 v15 v16;
let v18 : Int := orI IntKind.u64 (v12.getD (mulE v14.toNat 1) 0) v17;
let v19 : List Int := v12.set (mulE v14.toNat 1) v18;
let v20 : Int := IntKind.i64.wrap (v13 + 1);
let v21 : Int := IntKind.i64.wrap (v20.tdiv 8);
let v22 : Int := IntKind.u64.wrap (x.getD (mulE v20.toNat 1) 0);
let v23 : Int := IntKind.i64.wrap (8 * v20.tmod 8);
let v24 : Int := shlI IntKind.u64 v22 v23;
let v25 : Int := orI IntKind.u64 (v19.getD (mulE v21.toNat 1) 0) v24;
let v26 : List Int := v19.set (mulE v21.toNat 1) v25;
let v27 : Int := IntKind.i64.wrap (v20 + 1);
let v28 : Int := IntKind.i64.wrap (v27.tdiv 8);
let v29 : Int := IntKind.u64.wrap (x.getD (mulE v27.toNat 1) 0);
let v30 : Int := IntKind.i64.wrap (8 * v27.tmod 8);
let v31 : Int := shlI IntKind.u64 v29 v30;
let v32 : Int := orI IntKind.u64 (v26.getD (mulE v28.toNat 1) 0) v31;
let v33 : List Int := v26.set (mulE v28.toNat 1) v32;
let v34 : Int := IntKind.i64.wrap (v27 + 1);
let v35 : Int := IntKind.i64.wrap (v34.tdiv 8);
let v36 : Int := IntKind.u64.wrap (x.getD (mulE v34.toNat 1) 0);
let v37 : Int := IntKind.i64.wrap (8 * v34.tmod 8);
let v38 : Int := shlI IntKind.u64 v36 v37;
let v39 : Int := orI IntKind.u64 (v33.getD (mulE v35.toNat 1) 0) v38;
let v40 : List Int := v33.set (mulE v35.toNat 1) v39;
let v41 : Int := IntKind.i64.wrap (v34 + 1);
let v42 : Int := IntKind.i64.wrap (v41.tdiv 8);
let v43 : Int := IntKind.u64.wrap (x.getD (mulE v41.toNat 1) 0);
let v44 : Int := IntKind.i64.wrap (8 * v41.tmod 8);
let v45 : Int := shlI IntKind.u64 v43 v44;
let v46 : Int := orI IntKind.u64 (v40.getD (mulE v42.toNat 1) 0) v45;
let v47 : List Int := v40.set (mulE v42.toNat 1) v46;
let v48 : Int := IntKind.i64.wrap (v41 + 1);
let v49 : Int := IntKind.i64.wrap (v48.tdiv 8);
let v50 : Int := IntKind.u64.wrap (x.getD (mulE v48.toNat 1) 0);
let v51 : Int := IntKind.i64.wrap (8 * v48.tmod 8);
let v52 : Int := shlI IntKind.u64 v50 v51;
let v53 : Int := orI IntKind.u64 (v47.getD (mulE v49.toNat 1) 0) v52;
let v54 : List Int := v47.set (mulE v49.toNat 1) v53;
let v55 : Int := IntKind.i64.wrap (v48 + 1);
let v56 : Int := IntKind.i64.wrap (v55.tdiv 8);
let v57 : Int := IntKind.u64.wrap (x.getD (mulE v55.toNat 1) 0);
let v58 : Int := IntKind.i64.wrap (8 * v55.tmod 8);
let v59 : Int := shlI IntKind.u64 v57 v58;
let v60 : Int := orI IntKind.u64 (v54.getD (mulE v56.toNat 1) 0) v59;
let v61 : List Int := v54.set (mulE v56.toNat 1) v60;
let v62 : Int := IntKind.i64.wrap (v55 + 1);
let v63 : Int := IntKind.i64.wrap (v62.tdiv 8);
let v64 : Int := IntKind.u64.wrap (x.getD (mulE v62.toNat 1) 0);
let v65 : Int := IntKind.i64.wrap (8 * v62.tmod 8);
let v66 : Int := shlI IntKind.u64 v64 v65;
let v67 : Int := orI IntKind.u64 (v61.getD (mulE v63.toNat 1) 0) v66;
let v68 : List Int := v61.set (mulE v63.toNat 1) v67;
let v69 : Int := IntKind.i64.wrap (v62 + 1);
let v70 : Int := IntKind.i64.wrap (v69.tdiv 8);
let v71 : Int := IntKind.u64.wrap (x.getD (mulE v69.toNat 1) 0);
let v72 : Int := IntKind.i64.wrap (8 * v69.tmod 8);
let v73 : Int := shlI IntKind.u64 v71 v72;
let v74 : Int := orI IntKind.u64 (v68.getD (mulE v70.toNat 1) 0) v73;
let v75 : List Int := v68.set (mulE v70.toNat 1) v74;
let v76 : Int := IntKind.i64.wrap (v69 + 1);
let v77 : Int := IntKind.i64.wrap (v76.tdiv 8);
let v78 : Int := IntKind.u64.wrap (x.getD (mulE v76.toNat 1) 0);
let v79 : Int := IntKind.i64.wrap (8 * v76.tmod 8);
let v80 : Int := shlI IntKind.u64 v78 v79;
let v81 : Int := orI IntKind.u64 (v75.getD (mulE v77.toNat 1) 0) v80;
let v82 : List Int := v75.set (mulE v77.toNat 1) v81;
let v83 : Int := IntKind.i64.wrap (v76 + 1);
let v84 : Int := IntKind.i64.wrap (v83.tdiv 8);
let v85 : Int := IntKind.u64.wrap (x.getD (mulE v83.toNat 1) 0);
let v86 : Int := IntKind.i64.wrap (8 * v83.tmod 8);
let v87 : Int := shlI IntKind.u64 v85 v86;
let v88 : Int := orI IntKind.u64 (v82.getD (mulE v84.toNat 1) 0) v87;
let v89 : List Int := v82.set (mulE v84.toNat 1) v88;
let v90 : Int := IntKind.i64.wrap (v83 + 1);
let v91 : Int := IntKind.i64.wrap (v90.tdiv 8);
let v92 : Int := IntKind.u64.wrap (x.getD (mulE v90.toNat 1) 0);
let v93 : Int := IntKind.i64.wrap (8 * v90.tmod 8);
let v94 : Int := shlI IntKind.u64 v92 v93;
let v95 : Int := orI IntKind.u64 (v89.getD (mulE v91.toNat 1) 0) v94;
let v96 : List Int := v89.set (mulE v91.toNat 1) v95;
let v97 : Int := IntKind.i64.wrap (v90 + 1);
let v98 : Int := IntKind.i64.wrap (v97.tdiv 8);
let v99 : Int := IntKind.u64.wrap (x.getD (mulE v97.toNat 1) 0);
let v100 : Int := IntKind.i64.wrap (8 * v97.tmod 8);
let v101 : Int := shlI IntKind.u64 v99 v100;
let v102 : Int := orI IntKind.u64 (v96.getD (mulE v98.toNat 1) 0) v101;
let v103 : List Int := v96.set (mulE v98.toNat 1) v102;
let v104 : Int := IntKind.i64.wrap (v97 + 1);
let v105 : Int := IntKind.i64.wrap (v104.tdiv 8);
let v106 : Int := IntKind.u64.wrap (x.getD (mulE v104.toNat 1) 0);
let v107 : Int := IntKind.i64.wrap (8 * v104.tmod 8);
let v108 : Int := shlI IntKind.u64 v106 v107;
let v109 : Int := orI IntKind.u64 (v103.getD (mulE v105.toNat 1) 0) v108;
let v110 : List Int := v103.set (mulE v105.toNat 1) v109;
let v111 : Int := IntKind.i64.wrap (v104 + 1);
let v112 : Int := IntKind.i64.wrap (v111.tdiv 8);
let v113 : Int := IntKind.u64.wrap (x.getD (mulE v111.toNat 1) 0);
let v114 : Int := IntKind.i64.wrap (8 * v111.tmod 8);
let v115 : Int := shlI IntKind.u64 v113 v114;
let v116 : Int := orI IntKind.u64 (v110.getD (mulE v112.toNat 1) 0) v115;
let v117 : List Int := v110.set (mulE v112.toNat 1) v116;
let v118 : Int := IntKind.i64.wrap (v111 + 1);
let v119 : Int := IntKind.i64.wrap (v118.tdiv 8);
let v120 : Int := IntKind.u64.wrap (x.getD (mulE v118.toNat 1) 0);
let v121 : Int := IntKind.i64.wrap (8 * v118.tmod 8);
let v122 : Int := shlI IntKind.u64 v120 v121;
let v123 : Int := orI IntKind.u64 (v117.getD (mulE v119.toNat 1) 0) v122;
let v124 : List Int := v117.set (mulE v119.toNat 1) v123;
let v125 : Int := IntKind.i64.wrap (v118 + 1);
let v126 : Int := IntKind.i64.wrap (v125.tdiv 8);
let v127 : Int := IntKind.u64.wrap (x.getD (mulE v125.toNat 1) 0);
let v128 : Int := IntKind.i64.wrap (8 * v125.tmod 8);
let v129 : Int := shlI IntKind.u64 v127 v128;
let v130 : Int := orI IntKind.u64 (v124.getD (mulE v126.toNat 1) 0) v129;
let v131 : List Int := v124.set (mulE v126.toNat 1) v130;
let v132 : Int := IntKind.i64.wrap (v125 + 1);
let v133 : Int := IntKind.i64.wrap (v132.tdiv 8);
let v134 : Int := IntKind.u64.wrap (x.getD (mulE v132.toNat 1) 0);
let v135 : Int := IntKind.i64.wrap (8 * v132.tmod 8);
let v136 : Int := shlI IntKind.u64 v134 v135;
let v137 : Int := orI IntKind.u64 (v131.getD (mulE v133.toNat 1) 0) v136;
let v138 : List Int := v131.set (mulE v133.toNat 1) v137;
let v139 : Int := IntKind.i64.wrap (v132 + 1);
let v140 : Int := IntKind.i64.wrap (v139.tdiv 8);
let v141 : Int := IntKind.u64.wrap (x.getD (mulE v139.toNat 1) 0);
let v142 : Int := IntKind.i64.wrap (8 * v139.tmod 8);
let v143 : Int := shlI IntKind.u64 v141 v142;
let v144 : Int := orI IntKind.u64 (v138.getD (mulE v140.toNat 1) 0) v143;
let v145 : List Int := v138.set (mulE v140.toNat 1) v144;
let v146 : Int := IntKind.i64.wrap (v139 + 1);
let v147 : Int := IntKind.i64.wrap (v146.tdiv 8);
let v148 : Int := IntKind.u64.wrap (x.getD (mulE v146.toNat 1) 0);
let v149 : Int := IntKind.i64.wrap (8 * v146.tmod 8);
let v150 : Int := shlI IntKind.u64 v148 v149;
let v151 : Int := orI IntKind.u64 (v145.getD (mulE v147.toNat 1) 0) v150;
let v152 : List Int := v145.set (mulE v147.toNat 1) v151;
let v153 : Int := IntKind.i64.wrap (v146 + 1);
let v154 : Int := IntKind.i64.wrap (v153.tdiv 8);
let v155 : Int := IntKind.u64.wrap (x.getD (mulE v153.toNat 1) 0);
let v156 : Int := IntKind.i64.wrap (8 * v153.tmod 8);
let v157 : Int := shlI IntKind.u64 v155 v156;
let v158 : Int := orI IntKind.u64 (v152.getD (mulE v154.toNat 1) 0) v157;
let v159 : List Int := v152.set (mulE v154.toNat 1) v158;
let v160 : Int := IntKind.i64.wrap (v153 + 1);
let v161 : Int := IntKind.i64.wrap (v160.tdiv 8);
let v162 : Int := IntKind.u64.wrap (x.getD (mulE v160.toNat 1) 0);
let v163 : Int := IntKind.i64.wrap (8 * v160.tmod 8);
let v164 : Int := shlI IntKind.u64 v162 v163;
let v165 : Int := orI IntKind.u64 (v159.getD (mulE v161.toNat 1) 0) v164;
let v166 : List Int := v159.set (mulE v161.toNat 1) v165;
let v167 : Int := IntKind.i64.wrap (v160 + 1);
let v168 : Int := IntKind.i64.wrap (v167.tdiv 8);
let v169 : Int := IntKind.u64.wrap (x.getD (mulE v167.toNat 1) 0);
let v170 : Int := IntKind.i64.wrap (8 * v167.tmod 8);
let v171 : Int := shlI IntKind.u64 v169 v170;
let v172 : Int := orI IntKind.u64 (v166.getD (mulE v168.toNat 1) 0) v171;
let v173 : List Int := v166.set (mulE v168.toNat 1) v172;
let v174 : Int := IntKind.i64.wrap (v167 + 1);
let v175 : Int := IntKind.i64.wrap (v174.tdiv 8);
let v176 : Int := IntKind.u64.wrap (x.getD (mulE v174.toNat 1) 0);
let v177 : Int := IntKind.i64.wrap (8 * v174.tmod 8);
let v178 : Int := shlI IntKind.u64 v176 v177;
let v179 : Int := orI IntKind.u64 (v173.getD (mulE v175.toNat 1) 0) v178;
let v180 : List Int := v173.set (mulE v175.toNat 1) v179;
let v181 : Int := IntKind.i64.wrap (v174 + 1);
let v182 : Int := IntKind.i64.wrap (v181.tdiv 8);
let v183 : Int := IntKind.u64.wrap (x.getD (mulE v181.toNat 1) 0);
let v184 : Int := IntKind.i64.wrap (8 * v181.tmod 8);
let v185 : Int := shlI IntKind.u64 v183 v184;
let v186 : Int := orI IntKind.u64 (v180.getD (mulE v182.toNat 1) 0) v185;
let v187 : List Int := v180.set (mulE v182.toNat 1) v186;
let v188 : Int := IntKind.i64.wrap (v181 + 1);
let v189 : Int := IntKind.i64.wrap (v188.tdiv 8);
let v190 : Int := IntKind.u64.wrap (x.getD (mulE v188.toNat 1) 0);
let v191 : Int := IntKind.i64.wrap (8 * v188.tmod 8);
let v192 : Int := shlI IntKind.u64 v190 v191;
let v193 : Int := orI IntKind.u64 (v187.getD (mulE v189.toNat 1) 0) v192;
let v194 : List Int := v187.set (mulE v189.toNat 1) v193;
let v195 : Int := IntKind.i64.wrap (v188 + 1);
let v196 : Int := IntKind.i64.wrap (v195.tdiv 8);
let v197 : Int := IntKind.u64.wrap (x.getD (mulE v195.toNat 1) 0);
let v198 : Int := IntKind.i64.wrap (8 * v195.tmod 8);
let v199 : Int := shlI IntKind.u64 v197 v198;
let v200 : Int := orI IntKind.u64 (v194.getD (mulE v196.toNat 1) 0) v199;
let v201 : List Int := v194.set (mulE v196.toNat 1) v200;
let v202 : Int := IntKind.i64.wrap (v195 + 1);
let v203 : Int := IntKind.i64.wrap (v202.tdiv 8);
let v204 : Int := IntKind.u64.wrap (x.getD (mulE v202.toNat 1) 0);
let v205 : Int := IntKind.i64.wrap (8 * v202.tmod 8);
let v206 : Int := shlI IntKind.u64 v204 v205;
let v207 : Int := orI IntKind.u64 (v201.getD (mulE v203.toNat 1) 0) v206;
let v208 : List Int := v201.set (mulE v203.toNat 1) v207;
let v209 : Int := IntKind.i64.wrap (v202 + 1);
let v210 : Int := IntKind.i64.wrap (v209.tdiv 8);
let v211 : Int := IntKind.u64.wrap (x.getD (mulE v209.toNat 1) 0);
let v212 : Int := IntKind.i64.wrap (8 * v209.tmod 8);
let v213 : Int := shlI IntKind.u64 v211 v212;
let v214 : Int := orI IntKind.u64 (v208.getD (mulE v210.toNat 1) 0) v213;
let v215 : List Int := v208.set (mulE v210.toNat 1) v214;
let v216 : Int := IntKind.i64.wrap (v209 + 1);
let v217 : Int := IntKind.i64.wrap (v216.tdiv 8);
let v218 : Int := IntKind.u64.wrap (x.getD (mulE v216.toNat 1) 0);
let v219 : Int := IntKind.i64.wrap (8 * v216.tmod 8);
let v220 : Int := shlI IntKind.u64 v218 v219;
let v221 : Int := orI IntKind.u64 (v215.getD (mulE v217.toNat 1) 0) v220;
let v222 : List Int := v215.set (mulE v217.toNat 1) v221;
k [DV.v (SV.one (At.ints IntKind.u64 4 v222))]


noncomputable def E159 (N : Nat) : Env := { Θ := Th, Γ := [], K := K159, ν := N159, fuel := 60, lp := [] }


theorem f159_contract (N : Nat) (hΓ : CtxOk Tryz.prog []) : Contract Tryz.prog 159 { sig := S159, impl := fun _ ds k => call (E159 N) S159 24 B159 R159 ds k } :=
  call_contract (E := E159 N) thOk hΓ mixed ok159.look ok159.body ok159.n ok159.rv ok159.name rfl (by decide) (loopsOk_of (l := [(0, B159_0)]) (by kernel_rfl) (allOk_skip rfl trivial))
theorem f159_raw_eq {R : Type} (N : Nat) (x : List Int) (k : List DV → Option R) : call (E159 N) S159 24 B159 R159 [.v (.one (.ints .u8 32 x))] k = f159_raw N x k := by kernel_rfl
end Go.Proofs.YtogcijgklnfjjaaGreat

namespace Go.Proofs.YtogcijgklnfjjaaGreat
open Go Go.Eng
set_option maxRecDepth 100000

noncomputable def maHi (x y z c : Int) : Int := IntKind.u64.wrap (IntKind.u64.wrap (mulHi x y + addHi (mulLo x y) z 0) + addHi (addLo (mulLo x y) z 0) c 0)
noncomputable def maLo (x y z c : Int) : Int := addLo (addLo (mulLo x y) z 0) c 0

noncomputable def I190 : (R : Type) → List DV → (List DV → Option R) → Option R := fun _ ds k => match ds with
  | [.v (.one (.int .u64 x)), .v (.one (.int .u64 y)), .v (.one (.int .u64 z)), .v (.one (.int .u64 c))] => k [.v (.one (.int .u64 (maHi x y z c))), .v (.one (.int .u64 (maLo x y z c)))]
  | _ => none
theorem c190 : Contract Tryz.prog 190 { sig := S190, impl := I190 } := by
  refine Contract.refine fun R ds k r h => ⟨_, f190_contract 0 G102_ok, ?_⟩
  unfold I190 at h
  split at h
  · rw [f190_raw_eq]; exact h
  · cases h

theorem subHi_01 (x y c : Int) : (decide (subHi x y c = 0) || decide (subHi x y c = 1)) = true := by
  unfold subHi
  cases Nat.blt x.toNat (y.toNat + c.toNat) <;> rfl

noncomputable def lessB : List Int → List Int → Int → Int
  | x :: xs, y :: ys, c => lessB xs ys (subHi x y c)
  | _, _, c => c
noncomputable def lessD : List Int → List Int → Int → List Int
  | x :: xs, y :: ys, c => subLo x y c :: lessD xs ys (subHi x y c)
  | _, _, _ => []
def w4 (x : List Int) : List Int := [x.getD 0 0, x.getD 1 0, x.getD 2 0, x.getD 3 0]
noncomputable def lessL (x y : List Int) : List Int := lessD (w4 x) (w4 y) 0
noncomputable def under (x y : List Int) : Int := lessB (w4 x) (w4 y) 0

theorem f131_spec {R : Type} (x y : List Int) (k : List DV → Option R) : f131_raw 0 x y k = k [.v (.one (.ints .u64 4 (lessL x y))), .v (.one (.int .u64 (under x y)))] := by
  unfold f131_raw
  simp only [subHi_01, cond_true]
  rfl

noncomputable def I131 : (R : Type) → List DV → (List DV → Option R) → Option R := fun _ ds k => match ds with
  | [.v (.one (.ints .u64 4 x)), .v (.one (.ints .u64 4 y))] => k [.v (.one (.ints .u64 4 (lessL x y))), .v (.one (.int .u64 (under x y)))]
  | _ => none
theorem c131 : Contract Tryz.prog 131 { sig := S131, impl := I131 } := by
  refine Contract.refine fun R ds k r h => ⟨_, f131_contract 0 G56_ok, ?_⟩
  unfold I131 at h
  split at h
  · rw [f131_raw_eq, f131_spec]; exact h
  · cases h

noncomputable def backR (x : List Int) : List Int := ansL (f114_raw 0 x some) 0
theorem f114_spec {R : Type} (x : List Int) (k : List DV → Option R) : f114_raw 0 x k = k [.v (.one (.ints .u8 32 (backR x)))] := by kernel_rfl
noncomputable def backS : { f : List Int → List Int // ∀ x, f x = backR x } := Classical.choice ⟨⟨backR, fun _ => rfl⟩⟩
noncomputable def backL (x : List Int) : List Int := backS.1 x
theorem backL_eq (x : List Int) : backL x = backR x := backS.2 x
noncomputable def I114 : (R : Type) → List DV → (List DV → Option R) → Option R := fun _ ds k => match ds with
  | [.v (.one (.ints .u64 4 x))] => k [.v (.one (.ints .u8 32 (backL x)))]
  | _ => none
theorem c114 : Contract Tryz.prog 114 { sig := S114, impl := I114 } := by
  refine Contract.refine fun R ds k r h => ⟨_, f114_contract 0 ctxOk_nil, ?_⟩
  unfold I114 at h
  split at h
  · rw [f114_raw_eq, f114_spec, ← backL_eq]; exact h
  · cases h

noncomputable def fromR (x : List Int) : List Int := ansL (f159_raw 0 x some) 0
theorem f159_spec {R : Type} (x : List Int) (k : List DV → Option R) : f159_raw 0 x k = k [.v (.one (.ints .u64 4 (fromR x)))] := by kernel_rfl
noncomputable def fromS : { f : List Int → List Int // ∀ x, f x = fromR x } := Classical.choice ⟨⟨fromR, fun _ => rfl⟩⟩
noncomputable def fromL (x : List Int) : List Int := fromS.1 x
theorem fromL_eq (x : List Int) : fromL x = fromR x := fromS.2 x
noncomputable def I159 : (R : Type) → List DV → (List DV → Option R) → Option R := fun _ ds k => match ds with
  | [.v (.one (.ints .u8 32 x))] => k [.v (.one (.ints .u64 4 (fromL x)))]
  | _ => none
theorem c159 : Contract Tryz.prog 159 { sig := S159, impl := I159 } := by
  refine Contract.refine fun R ds k r h => ⟨_, f159_contract 0 ctxOk_nil, ?_⟩
  unfold I159 at h
  split at h
  · rw [f159_raw_eq, f159_spec, ← fromL_eq]; exact h
  · cases h

noncomputable def G79 : Ctx := [(132, { sig := S132, impl := I132 }), (131, { sig := S131, impl := I131 })]
theorem G79_ok : CtxOk Tryz.prog G79 := ctxOk_cons ok132 rfl c132 (ctxOk_cons ok131 rfl c131 ctxOk_nil)
end Go.Proofs.YtogcijgklnfjjaaGreat

namespace Go.Proofs.YtogcijgklnfjjaaGreat
open Go Go.Eng
set_option maxRecDepth 100000
set_option linter.unusedVariables false

noncomputable def f158_raw {R : Type} (N : Nat) (x : List Int) (k : List DV → Option R) : Option R :=
 bif under x ordW == 0 then k [DV.v (SV.one (At.ints IntKind.u64 4 (lessL x ordW)))] else k [DV.v (SV.one (At.ints IntKind.u64 4 x))]


noncomputable def E158 (N : Nat) : Env := { Θ := Th, Γ := G79, K := K158, ν := N158, fuel := 20, lp := [] }


theorem f158_contract (N : Nat) (hΓ : CtxOk Tryz.prog G79) : Contract Tryz.prog 158 { sig := S158, impl := fun _ ds k => call (E158 N) S158 15 B158 R158 ds k } :=
  call_contract (E := E158 N) thOk hΓ mixed ok158.look ok158.body ok158.n ok158.rv ok158.name rfl (by decide) (loopsOk_of (l := []) (by kernel_rfl) trivial)
theorem f158_raw_eq {R : Type} (N : Nat) (x : List Int) (k : List DV → Option R) : call (E158 N) S158 15 B158 R158 [.v (.one (.ints .u64 4 x))] k = f158_raw N x k := by kernel_rfl
end Go.Proofs.YtogcijgklnfjjaaGreat

namespace Go.Proofs.YtogcijgklnfjjaaGreat
open Go Go.Eng
set_option maxRecDepth 100000

noncomputable def lowL (x : List Int) : List Int := bif under x ordW == 0 then lessL x ordW else x
noncomputable def I158 : (R : Type) → List DV → (List DV → Option R) → Option R := fun _ ds k => match ds with
  | [.v (.one (.ints .u64 4 x))] => k [.v (.one (.ints .u64 4 (lowL x)))]
  | _ => none
theorem c158 : Contract Tryz.prog 158 { sig := S158, impl := I158 } := by
  refine Contract.refine fun R ds k r h => ⟨_, f158_contract 0 G79_ok, ?_⟩
  unfold I158 at h
  split at h
  · rename_i x
    rw [f158_raw_eq]
    unfold f158_raw
    unfold lowL at h
    cases hc : under x ordW == 0 with
    | true => rw [hc] at h; exact h
    | false => rw [hc] at h; exact h
  · cases h

noncomputable def G54 : Ctx := [(157, { sig := SV33, impl := IAdd64 }), (158, { sig := S158, impl := I158 })]
theorem G54_ok : CtxOk Tryz.prog G54 := ctxOk_ext rfl c157 (ctxOk_cons ok158 rfl c158 ctxOk_nil)
noncomputable def G82 : Ctx := [(132, { sig := S132, impl := I132 }), (157, { sig := SV33, impl := IAdd64 }), (158, { sig := S158, impl := I158 }), (190, { sig := S190, impl := I190 })]
theorem G82_ok : CtxOk Tryz.prog G82 := ctxOk_cons ok132 rfl c132 (ctxOk_ext rfl c157 (ctxOk_cons ok158 rfl c158 (ctxOk_cons ok190 rfl c190 ctxOk_nil)))
noncomputable def G55 : Ctx := [(158, { sig := S158, impl := I158 }), (159, { sig := S159, impl := I159 })]
theorem G55_ok : CtxOk Tryz.prog G55 := ctxOk_cons ok158 rfl c158 (ctxOk_cons ok159 rfl c159 ctxOk_nil)
end Go.Proofs.YtogcijgklnfjjaaGreat

namespace Go.Proofs.YtogcijgklnfjjaaGreat
open Go Go.Eng
set_option maxRecDepth 100000
set_option linter.unusedVariables false

noncomputable def f179_raw {R : Type} (N : Nat) (x : List Int) (y : List Int) (k : List DV → Option R) : Option R :=
 let v0 : List Int := (List.replicate 6 0).set (mulE (Int.toNat 0) 1) (maLo (x.getD (mulE (Int.toNat 0) 1) 0) (y.getD (mulE (Int.toNat 0) 1) 0) ((List.replicate 6 0).getD (mulE (Int.toNat 0) 1) 0) 0);
let v1 : Int := IntKind.i64.wrap (0 + 1);
let v2 : List Int := v0.set (mulE v1.toNat 1) (maLo (x.getD (mulE (Int.toNat 0) 1) 0) (y.getD (mulE v1.toNat 1) 0) (v0.getD (mulE v1.toNat 1) 0) (maHi (x.getD (mulE (Int.toNat 0) 1) 0) (y.getD (mulE (Int.toNat 0) 1) 0) ((List.replicate 6 0).getD (mulE (Int.toNat 0) 1) 0) 0));
let v3 : Int := IntKind.i64.wrap (v1 + 1);
let v4 : List Int := v2.set (mulE v3.toNat 1) (maLo (x.getD (mulE (Int.toNat 0) 1) 0) (y.getD (mulE v3.toNat 1) 0) (v2.getD (mulE v3.toNat 1) 0) (maHi (x.getD (mulE (Int.toNat 0) 1) 0) (y.getD (mulE v1.toNat 1) 0) (v0.getD (mulE v1.toNat 1) 0) (maHi (x.getD (mulE (Int.toNat 0) 1) 0) (y.getD (mulE (Int.toNat 0) 1) 0) ((List.replicate 6 0).getD (mulE (Int.toNat 0) 1) 0) 0)));
let v5 : Int := IntKind.i64.wrap (v3 + 1);
let v6 : List Int := v4.set (mulE v5.toNat 1) (maLo (x.getD (mulE (Int.toNat 0) 1) 0) (y.getD (mulE v5.toNat 1) 0) (v4.getD (mulE v5.toNat 1) 0) (maHi (x.getD (mulE (Int.toNat 0) 1) 0) (y.getD (mulE v3.toNat 1) 0) (v2.getD (mulE v3.toNat 1) 0) (maHi (x.getD (mulE (Int.toNat 0) 1) 0) (y.getD (mulE v1.toNat 1) 0) (v0.getD (mulE v1.toNat 1) 0) (maHi (x.getD (mulE (Int.toNat 0) 1) 0) (y.getD (mulE (Int.toNat 0) 1) 0) ((List.replicate 6 0).getD (mulE (Int.toNat 0) 1) 0) 0))));
let v7 : List Int := v6.set (mulE (Int.toNat 4) 1) (addLo (v6.getD (mulE (Int.toNat 4) 1) 0) (maHi (x.getD (mulE (Int.toNat 0) 1) 0) (y.getD (mulE v5.toNat 1) 0) (v4.getD (mulE v5.toNat 1) 0) (maHi (x.getD (mulE (Int.toNat 0) 1) 0) (y.getD (mulE v3.toNat 1) 0) (v2.getD (mulE v3.toNat 1) 0) (maHi (x.getD (mulE (Int.toNat 0) 1) 0) (y.getD (mulE v1.toNat 1) 0) (v0.getD (mulE v1.toNat 1) 0) (maHi (x.getD (mulE (Int.toNat 0) 1) 0) (y.getD (mulE (Int.toNat 0) 1) 0) ((List.replicate 6 0).getD (mulE (Int.toNat 0) 1) 0) 0)))) 0);
let v8 : List Int := v7.set (mulE (Int.toNat 5) 1) (addHi (v6.getD (mulE (Int.toNat 4) 1) 0) (maHi (x.getD (mulE (Int.toNat 0) 1) 0) (y.getD (mulE v5.toNat 1) 0) (v4.getD (mulE v5.toNat 1) 0) (maHi (x.getD (mulE (Int.toNat 0) 1) 0) (y.getD (mulE v3.toNat 1) 0) (v2.getD (mulE v3.toNat 1) 0) (maHi (x.getD (mulE (Int.toNat 0) 1) 0) (y.getD (mulE v1.toNat 1) 0) (v0.getD (mulE v1.toNat 1) 0) (maHi (x.getD (mulE (Int.toNat 0) 1) 0) (y.getD (mulE (Int.toNat 0) 1) 0) ((List.replicate 6 0).getD (mulE (Int.toNat 0) 1) 0) 0)))) 0);
let v9 : Int := IntKind.i64.wrap (1 - 1);
let v10 : Int := IntKind.u64.wrap (v8.getD (mulE (Int.toNat 0) 1) 0 * 15183074304973897243);
let v11 : List Int := v8.set (mulE v9.toNat 1) (maLo v10 (ordW.getD (mulE (Int.toNat 1) 1) 0) (v8.getD (mulE (Int.toNat 1) 1) 0) (maHi v10 (ordW.getD (mulE (Int.toNat 0) 1) 0) (v8.getD (mulE (Int.toNat 0) 1) 0) 0));
let v12 : Int := IntKind.i64.wrap (1 + 1);
let v13 : Int := IntKind.i64.wrap (v12 - 1);
let v14 : List Int := v11.set (mulE v13.toNat 1) (maLo v10 (ordW.getD (mulE v12.toNat 1) 0) (v11.getD (mulE v12.toNat 1) 0) (maHi v10 (ordW.getD (mulE (Int.toNat 1) 1) 0) (v8.getD (mulE (Int.toNat 1) 1) 0) (maHi v10 (ordW.getD (mulE (Int.toNat 0) 1) 0) (v8.getD (mulE (Int.toNat 0) 1) 0) 0)));
let v15 : Int := IntKind.i64.wrap (v12 + 1);
let v16 : Int := IntKind.i64.wrap (v15 - 1);
let v17 : List Int := v14.set (mulE v16.toNat 1) (maLo v10 (ordW.getD (mulE v15.toNat 1) 0) (v14.getD (mulE v15.toNat 1) 0) (maHi v10 (ordW.getD (mulE v12.toNat 1) 0) (v11.getD (mulE v12.toNat 1) 0) (maHi v10 (ordW.getD (mulE (Int.toNat 1) 1) 0) (v8.getD (mulE (Int.toNat 1) 1) 0) (maHi v10 (ordW.getD (mulE (Int.toNat 0) 1) 0) (v8.getD (mulE (Int.toNat 0) 1) 0) 0))));
let v18 : List Int := v17.set (mulE (Int.toNat 3) 1) (addLo (v17.getD (mulE (Int.toNat 4) 1) 0) (maHi v10 (ordW.getD (mulE v15.toNat 1) 0) (v14.getD (mulE v15.toNat 1) 0) (maHi v10 (ordW.getD (mulE v12.toNat 1) 0) (v11.getD (mulE v12.toNat 1) 0) (maHi v10 (ordW.getD (mulE (Int.toNat 1) 1) 0) (v8.getD (mulE (Int.toNat 1) 1) 0) (maHi v10 (ordW.getD (mulE (Int.toNat 0) 1) 0) (v8.getD (mulE (Int.toNat 0) 1) 0) 0)))) 0);
let v19 : Int := IntKind.u64.wrap (v18.getD (mulE (Int.toNat 5) 1) 0 + addHi (v17.getD (mulE (Int.toNat 4) 1) 0) (maHi v10 (ordW.getD (mulE v15.toNat 1) 0) (v14.getD (mulE v15.toNat 1) 0) (maHi v10 (ordW.getD (mulE v12.toNat 1) 0) (v11.getD (mulE v12.toNat 1) 0) (maHi v10 (ordW.getD (mulE (Int.toNat 1) 1) 0) (v8.getD (mulE (Int.toNat 1) 1) 0) (maHi v10 (ordW.getD (mulE (Int.toNat 0) 1) 0) (v8.getD (mulE (Int.toNat 0) 1) 0) 0)))) 0);
let v20 : List Int := v18.set (mulE (Int.toNat 4) 1) v19;
let v21 : List Int := v20.set (mulE (Int.toNat 0) 1) (maLo (x.getD (mulE v1.toNat 1) 0) (y.getD (mulE (Int.toNat 0) 1) 0) (v20.getD (mulE (Int.toNat 0) 1) 0) 0);
let v22 : List Int := v21.set (mulE v1.toNat 1) (maLo (x.getD (mulE v1.toNat 1) 0) (y.getD (mulE v1.toNat 1) 0) (v21.getD (mulE v1.toNat 1) 0) (maHi (x.getD (mulE v1.toNat 1) 0) (y.getD (mulE (Int.toNat 0) 1) 0) (v20.getD (mulE (Int.toNat 0) 1) 0) 0));
let v23 : List Int := v22.set (mulE v3.toNat 1) (maLo (x.getD (mulE v1.toNat 1) 0) (y.getD (mulE v3.toNat 1) 0) (v22.getD (mulE v3.toNat 1) 0) (maHi (x.getD (mulE v1.toNat 1) 0) (y.getD (mulE v1.toNat 1) 0) (v21.getD (mulE v1.toNat 1) 0) (maHi (x.getD (mulE v1.toNat 1) 0) (y.getD (mulE (Int.toNat 0) 1) 0) (v20.getD (mulE (Int.toNat 0) 1) 0) 0)));
let v24 : List Int := v23.set (mulE v5.toNat 1) (maLo (x.getD (mulE v1.toNat 1) 0) (y.getD (mulE v5.toNat 1) 0) (v23.getD (mulE v5.toNat 1) 0) (maHi (x.getD (mulE v1.toNat 1) 0) (y.getD (mulE v3.toNat 1) 0) (v22.getD (mulE v3.toNat 1) 0) (maHi (x.getD (mulE v1.toNat 1) 0) (y.getD (mulE v1.toNat 1) 0) (v21.getD (mulE v1.toNat 1) 0) (maHi (x.getD (mulE v1.toNat 1) 0) (y.getD (mulE (Int.toNat 0) 1) 0) (v20.getD (mulE (Int.toNat 0) 1) 0) 0))));
let v25 : List Int := v24.set (mulE (Int.toNat 4) 1) (addLo (v24.getD (mulE (Int.toNat 4) 1) 0) (maHi (x.getD (mulE v1.toNat 1) 0) (y.getD (mulE v5.toNat 1) 0) (v23.getD (mulE v5.toNat 1) 0) (maHi (x.getD (mulE v1.toNat 1) 0) (y.getD (mulE v3.toNat 1) 0) (v22.getD (mulE v3.toNat 1) 0) (maHi (x.getD (mulE v1.toNat 1) 0) (y.getD (mulE v1.toNat 1) 0) (v21.getD (mulE v1.toNat 1) 0) (maHi (x.getD (mulE v1.toNat 1) 0) (y.getD (mulE (Int.toNat 0) 1) 0) (v20.getD (mulE (Int.toNat 0) 1) 0) 0)))) 0);
let v26 : List Int := v25.set (mulE (Int.toNat 5) 1) (addHi (v24.getD (mulE (Int.toNat 4) 1) 0) (maHi (x.getD (mulE v1.toNat 1) 0) (y.getD (mulE v5.toNat 1) 0) (v23.getD (mulE v5.toNat 1) 0) (maHi (x.getD (mulE v1.toNat 1) 0) (y.getD (mulE v3.toNat 1) 0) (v22.getD (mulE v3.toNat 1) 0) (maHi (x.getD (mulE v1.toNat 1) 0) (y.getD (mulE v1.toNat 1) 0) (v21.getD (mulE v1.toNat 1) 0) (maHi (x.getD (mulE v1.toNat 1) 0) (y.getD (mulE (Int.toNat 0) 1) 0) (v20.getD (mulE (Int.toNat 0) 1) 0) 0)))) 0);
let v27 : Int := IntKind.u64.wrap (v26.getD (mulE (Int.toNat 0) 1) 0 * 15183074304973897243);
let v28 : List Int := v26.set (mulE v9.toNat 1) (maLo v27 (ordW.getD (mulE (Int.toNat 1) 1) 0) (v26.getD (mulE (Int.toNat 1) 1) 0) (maHi v27 (ordW.getD (mulE (Int.toNat 0) 1) 0) (v26.getD (mulE (Int.toNat 0) 1) 0) 0));
let v29 : List Int := v28.set (mulE v13.toNat 1) (maLo v27 (ordW.getD (mulE v12.toNat 1) 0) (v28.getD (mulE v12.toNat 1) 0) (maHi v27 (ordW.getD (mulE (Int.toNat 1) 1) 0) (v26.getD (mulE (Int.toNat 1) 1) 0) (maHi v27 (ordW.getD (mulE (Int.toNat 0) 1) 0) (v26.getD (mulE (Int.toNat 0) 1) 0) 0)));
let v30 : List Int := v29.set (mulE v16.toNat 1) (maLo v27 (ordW.getD (mulE v15.toNat 1) 0) (v29.getD (mulE v15.toNat 1) 0) (maHi v27 (ordW.getD (mulE v12.toNat 1) 0) (v28.getD (mulE v12.toNat 1) 0) (maHi v27 (ordW.getD (mulE (Int.toNat 1) 1) 0) (v26.getD (mulE (Int.toNat 1) 1) 0) (maHi v27 (ordW.getD (mulE (Int.toNat 0) 1) 0) (v26.getD (mulE (Int.toNat 0) 1) 0) 0))));
let v31 : List Int := v30.set (mulE (Int.toNat 3) 1) (addLo (v30.getD (mulE (Int.toNat 4) 1) 0) (maHi v27 (ordW.getD (mulE v15.toNat 1) 0) (v29.getD (mulE v15.toNat 1) 0) (maHi v27 (ordW.getD (mulE v12.toNat 1) 0) (v28.getD (mulE v12.toNat 1) 0) (maHi v27 (ordW.getD (mulE (Int.toNat 1) 1) 0) (v26.getD (mulE (Int.toNat 1) 1) 0) (maHi v27 (ordW.getD (mulE (Int.toNat 0) 1) 0) (v26.getD (mulE (Int.toNat 0) 1) 0) 0)))) 0);
let v32 : Int := IntKind.u64.wrap (v31.getD (mulE (Int.toNat 5) 1) 0 + addHi (v30.getD (mulE (Int.toNat 4) 1) 0) (maHi v27 (ordW.getD (mulE v15.toNat 1) 0) (v29.getD (mulE v15.toNat 1) 0) (maHi v27 (ordW.getD (mulE v12.toNat 1) 0) (v28.getD (mulE v12.toNat 1) 0) (maHi v27 (ordW.getD (mulE (Int.toNat 1) 1) 0) (v26.getD (mulE (Int.toNat 1) 1) 0) (maHi v27 (ordW.getD (mulE (Int.toNat 0) 1) 0) (v26.getD (mulE (Int.toNat 0) 1) 0) 0)))) 0);
let v33 : List Int := v31.set (mulE (Int.toNat 4) 1) v32;
let v34 : List Int := v33.set (mulE (Int.toNat 0) 1) (maLo (x.getD (mulE v3.toNat 1) 0) (y.getD (mulE (Int.toNat 0) 1) 0) (v33.getD (mulE (Int.toNat 0) 1) 0) 0);
let v35 : List Int := v34.set (mulE v1.toNat 1) (maLo (x.getD (mulE v3.toNat 1) 0) (y.getD (mulE v1.toNat 1) 0) (v34.getD (mulE v1.toNat 1) 0) (maHi (x.getD (mulE v3.toNat 1) 0) (y.getD (mulE (Int.toNat 0) 1) 0) (v33.getD (mulE (Int.toNat 0) 1) 0) 0));
let v36 : List Int := v35.set (mulE v3.toNat 1) (maLo (x.getD (mulE v3.toNat 1) 0) (y.getD (mulE v3.toNat 1) 0) (v35.getD (mulE v3.toNat 1) 0) (maHi (x.getD (mulE v3.toNat 1) 0) (y.getD (mulE v1.toNat 1) 0) (v34.getD (mulE v1.toNat 1) 0) (maHi (x.getD (mulE v3.toNat 1) 0) (y.getD (mulE (Int.toNat 0) 1) 0) (v33.getD (mulE (Int.toNat 0) 1) 0) 0)));
let v37 : List Int := v36.set (mulE v5.toNat 1) (maLo (x.getD (mulE v3.toNat 1) 0) (y.getD (mulE v5.toNat 1) 0) (v36.getD (mulE v5.toNat 1) 0) (maHi (x.getD (mulE v3.toNat 1) 0) (y.getD (mulE v3.toNat 1) 0) (v35.getD (mulE v3.toNat 1) 0) (maHi (x.getD (mulE v3.toNat 1) 0) (y.getD (mulE v1.toNat 1) 0) (v34.getD (mulE v1.toNat 1) 0) (maHi (x.getD (mulE v3.toNat 1) 0) (y.getD (mulE (Int.toNat 0) 1) 0) (v33.getD (mulE (Int.toNat 0) 1) 0) 0))));
let v38 : List Int := v37.set (mulE (Int.toNat 4) 1) (addLo (v37.getD (mulE (Int.toNat 4) 1) 0) (maHi (x.getD (mulE v3.toNat 1) 0) (y.getD (mulE v5.toNat 1) 0) (v36.getD (mulE v5.toNat 1) 0) (maHi (x.getD (mulE v3.toNat 1) 0) (y.getD (mulE v3.toNat 1) 0) (v35.getD (mulE v3.toNat 1) 0) (maHi (x.getD (mulE v3.toNat 1) 0) (y.getD (mulE v1.toNat 1) 0) (v34.getD (mulE v1.toNat 1) 0) (maHi (x.getD (mulE v3.toNat 1) 0) (y.getD (mulE (Int.toNat 0) 1) 0) (v33.getD (mulE (Int.toNat 0) 1) 0) 0)))) 0);
let v39 : List Int := v38.set (mulE (Int.toNat 5) 1) (addHi (v37.getD (mulE (Int.toNat 4) 1) 0) (maHi (x.getD (mulE v3.toNat 1) 0) (y.getD (mulE v5.toNat 1) 0) (v36.getD (mulE v5.toNat 1) 0) (maHi (x.getD (mulE v3.toNat 1) 0) (y.getD (mulE v3.toNat 1) 0) (v35.getD (mulE v3.toNat 1) 0) (maHi (x.getD (mulE v3.toNat 1) 0) (y.getD (mulE v1.toNat 1) 0) (v34.getD (mulE v1.toNat 1) 0) (maHi (x.getD (mulE v3.toNat 1) 0) (y.getD (mulE (Int.toNat 0) 1) 0) (v33.getD (mulE (Int.toNat 0) 1) 0) 0)))) 0);
let v40 : Int := IntKind.u64.wrap (v39.getD (mulE (Int.toNat 0) 1) 0 * 15183074304973897243);
let v41 : List Int := v39.set (mulE v9.toNat 1) (maLo v40 (ordW.getD (mulE (Int.toNat 1) 1) 0) (v39.getD (mulE (Int.toNat 1) 1) 0) (maHi v40 (ordW.getD (mulE (Int.toNat 0) 1) 0) (v39.getD (mulE (Int.toNat 0) 1) 0) 0));
let v42 : List Int := v41.set (mulE v13.toNat 1) (maLo v40 (ordW.getD (mulE v12.toNat 1) 0) (v41.getD (mulE v12.toNat 1) 0) (maHi v40 (ordW.getD (mulE (Int.toNat 1) 1) 0) (v39.getD (mulE (Int.toNat 1) 1) 0) (maHi v40 (ordW.getD (mulE (Int.toNat 0) 1) 0) (v39.getD (mulE (Int.toNat 0) 1) 0) 0)));
let v43 : List Int := v42.set (mulE v16.toNat 1) (maLo v40 (ordW.getD (mulE v15.toNat 1) 0) (v42.getD (mulE v15.toNat 1) 0) (maHi v40 (ordW.getD (mulE v12.toNat 1) 0) (v41.getD (mulE v12.toNat 1) 0) (maHi v40 (ordW.getD (mulE (Int.toNat 1) 1) 0) (v39.getD (mulE (Int.toNat 1) 1) 0) (maHi v40 (ordW.getD (mulE (Int.toNat 0) 1) 0) (v39.getD (mulE (Int.toNat 0) 1) 0) 0))));
let v44 : List Int := v43.set (mulE (Int.toNat 3) 1) (addLo (v43.getD (mulE (Int.toNat 4) 1) 0) (maHi v40 (ordW.getD (mulE v15.toNat 1) 0) (v42.getD (mulE v15.toNat 1) 0) (maHi v40 (ordW.getD (mulE v12.toNat 1) 0) (v41.getD (mulE v12.toNat 1) 0) (maHi v40 (ordW.getD (mulE (Int.toNat 1) 1) 0) (v39.getD (mulE (Int.toNat 1) 1) 0) (maHi v40 (ordW.getD (mulE (Int.toNat 0) 1) 0) (v39.getD (mulE (Int.toNat 0) 1) 0) 0)))) 0);
let v45 : Int := IntKind.u64.wrap (v44.getD (mulE (Int.toNat 5) 1) 0 + addHi (v43.getD (mulE (Int.toNat 4) 1) 0) (maHi v40 (ordW.getD (mulE v15.toNat 1) 0) (v42.getD (mulE v15.toNat 1) 0) (maHi v40 (ordW.getD (mulE v12.toNat 1) 0) (v41.getD (mulE v12.toNat 1) 0) (maHi v40 (ordW.getD (mulE (Int.toNat 1) 1) 0) (v39.getD (mulE (Int.toNat 1) 1) 0) (maHi v40 (ordW.getD (mulE (Int.toNat 0) 1) 0) (v39.getD (mulE (Int.toNat 0) 1) 0) 0)))) 0);
let v46 : List Int := v44.set (mulE (Int.toNat 4) 1) v45;
let v47 : List Int := v46.set (mulE (Int.toNat 0) 1) (maLo (x.getD (mulE v5.toNat 1) 0) (y.getD (mulE (Int.toNat 0) 1) 0) (v46.getD (mulE (Int.toNat 0) 1) 0) 0);
let v48 : List Int := v47.set (mulE v1.toNat 1) (maLo (x.getD (mulE v5.toNat 1) 0) (y.getD (mulE v1.toNat 1) 0) (v47.getD (mulE v1.toNat 1) 0) (maHi (x.getD (mulE v5.toNat 1) 0) (y.getD (mulE (Int.toNat 0) 1) 0) (v46.getD (mulE (Int.toNat 0) 1) 0) 0));
let v49 : List Int := v48.set (mulE v3.toNat 1) (maLo (x.getD (mulE v5.toNat 1) 0) (y.getD (mulE v3.toNat 1) 0) (v48.getD (mulE v3.toNat 1) 0) (maHi (x.getD (mulE v5.toNat 1) 0) (y.getD (mulE v1.toNat 1) 0) (v47.getD (mulE v1.toNat 1) 0) (maHi (x.getD (mulE v5.toNat 1) 0) (y.getD (mulE (Int.toNat 0) 1) 0) (v46.getD (mulE (Int.toNat 0) 1) 0) 0)));
let v50 : List Int := v49.set (mulE v5.toNat 1) (maLo (x.getD (mulE v5.toNat 1) 0) (y.getD (mulE v5.toNat 1) 0) (v49.getD (mulE v5.toNat 1) 0) (maHi (x.getD (mulE v5.toNat 1) 0) (y.getD (mulE v3.toNat 1) 0) (v48.getD (mulE v3.toNat 1) 0) (maHi (x.getD (mulE v5.toNat 1) 0) (y.getD (mulE v1.toNat 1) 0) (v47.getD (mulE v1.toNat 1) 0) (maHi (x.getD (mulE v5.toNat 1) 0) (y.getD (mulE (Int.toNat 0) 1) 0) (v46.getD (mulE (Int.toNat 0) 1) 0) 0))));
let v51 : List Int := v50.set (mulE (Int.toNat 4) 1) (addLo (v50.getD (mulE (Int.toNat 4) 1) 0) (maHi (x.getD (mulE v5.toNat 1) 0) (y.getD (mulE v5.toNat 1) 0) (v49.getD (mulE v5.toNat 1) 0) (maHi (x.getD (mulE v5.toNat 1) 0) (y.getD (mulE v3.toNat 1) 0) (v48.getD (mulE v3.toNat 1) 0) (maHi (x.getD (mulE v5.toNat 1) 0) (y.getD (mulE v1.toNat 1) 0) (v47.getD (mulE v1.toNat 1) 0) (maHi (x.getD (mulE v5.toNat 1) 0) (y.getD (mulE (Int.toNat 0) 1) 0) (v46.getD (mulE (Int.toNat 0) 1) 0) 0)))) 0);
let v52 : List Int := v51.set (mulE (Int.toNat 5) 1) (addHi (v50.getD (mulE (Int.toNat 4) 1) 0) (maHi (x.getD (mulE v5.toNat 1) 0) (y.getD (mulE v5.toNat 1) 0) (v49.getD (mulE v5.toNat 1) 0) (maHi (x.getD (mulE v5.toNat 1) 0) (y.getD (mulE v3.toNat 1) 0) (v48.getD (mulE v3.toNat 1) 0) (maHi (x.getD (mulE v5.toNat 1) 0) (y.getD (mulE v1.toNat 1) 0) (v47.getD (mulE v1.toNat 1) 0) (maHi (x.getD (mulE v5.toNat 1) 0) (y.getD (mulE (Int.toNat 0) 1) 0) (v46.getD (mulE (Int.toNat 0) 1) 0) 0)))) 0);
let v53 : Int := IntKind.u64.wrap (v52.getD (mulE (Int.toNat 0) 1) 0 * 15183074304973897243);
let v54 : List Int := v52.set (mulE v9.toNat 1) (maLo v53 (ordW.getD (mulE (Int.toNat 1) 1) 0) (v52.getD (mulE (Int.toNat 1) 1) 0) (maHi v53 (ordW.getD (mulE (Int.toNat 0) 1) 0) (v52.getD (mulE (Int.toNat 0) 1) 0) 0));
let v55 : List Int := v54.set (mulE v13.toNat 1) (maLo v53 (ordW.getD (mulE v12.toNat 1) 0) (v54.getD (mulE v12.toNat 1) 0) (maHi v53 (ordW.getD (mulE (Int.toNat 1) 1) 0) (v52.getD (mulE (Int.toNat 1) 1) 0) (maHi v53 (ordW.getD (mulE (Int.toNat 0) 1) 0) (v52.getD (mulE (Int.toNat 0) 1) 0) 0)));
let v56 : List Int := v55.set (mulE v16.toNat 1) (maLo v53 (ordW.getD (mulE v15.toNat 1) 0) (v55.getD (mulE v15.toNat 1) 0) (maHi v53 (ordW.getD (mulE v12.toNat 1) 0) (v54.getD (mulE v12.toNat 1) 0) (maHi v53 (ordW.getD (mulE (Int.toNat 1) 1) 0) (v52.getD (mulE (Int.toNat 1) 1) 0) (maHi v53 (ordW.getD (mulE (Int.toNat 0) 1) 0) (v52.getD (mulE (Int.toNat 0) 1) 0) 0))));
let v57 : List Int := v56.set (mulE (Int.toNat 3) 1) (addLo (v56.getD (mulE (Int.toNat 4) 1) 0) (maHi v53 (ordW.getD (mulE v15.toNat 1) 0) (v55.getD (mulE v15.toNat 1) 0) (maHi v53 (ordW.getD (mulE v12.toNat 1) 0) (v54.getD (mulE v12.toNat 1) 0) (maHi v53 (ordW.getD (mulE (Int.toNat 1) 1) 0) (v52.getD (mulE (Int.toNat 1) 1) 0) (maHi v53 (ordW.getD (mulE (Int.toNat 0) 1) 0) (v52.getD (mulE (Int.toNat 0) 1) 0) 0)))) 0);
let v58 : Int := IntKind.u64.wrap (v57.getD (mulE (Int.toNat 5) 1) 0 + addHi (v56.getD (mulE (Int.toNat 4) 1) 0) (maHi v53 (ordW.getD (mulE v15.toNat 1) 0) (v55.getD (mulE v15.toNat 1) 0) (maHi v53 (ordW.getD (mulE v12.toNat 1) 0) (v54.getD (mulE v12.toNat 1) 0) (maHi v53 (ordW.getD (mulE (Int.toNat 1) 1) 0) (v52.getD (mulE (Int.toNat 1) 1) 0) (maHi v53 (ordW.getD (mulE (Int.toNat 0) 1) 0) (v52.getD (mulE (Int.toNat 0) 1) 0) 0)))) 0);
let v59 : List Int := v57.set (mulE (Int.toNat 4) 1) v58;
let v60 : List Int := (List.replicate 4 0).set 0 (v59.getD (mulE (Int.toNat 0) 1) 0);
let v61 : List Int := v60.set 1 (v59.getD (mulE (Int.toNat 1) 1) 0);
let v62 : List Int := v61.set 2 (v59.getD (mulE (Int.toNat 2) 1) 0);
let v63 : List Int := v62.set 3 (v59.getD (mulE (Int.toNat 3) 1) 0);
k [DV.v (SV.one (At.ints IntKind.u64 4 (lowL v63)))]


noncomputable def E179 (N : Nat) : Env := { Θ := Th, Γ := G82, K := K179, ν := N179, fuel := 40, lp := [] }


theorem f179_contract (N : Nat) (hΓ : CtxOk Tryz.prog G82) : Contract Tryz.prog 179 { sig := S179, impl := fun _ ds k => call (E179 N) S179 101 B179 R179 ds k } :=
  call_contract (E := E179 N) thOk hΓ mixed ok179.look ok179.body ok179.n ok179.rv ok179.name rfl (by decide) (loopsOk_of (l := [(0, B179_0), (2, B179_2), (4, B179_4)]) (by kernel_rfl) (allOk_skip rfl (allOk_skip rfl (allOk_skip rfl trivial))))
theorem f179_raw_eq {R : Type} (N : Nat) (x : List Int) (y : List Int) (k : List DV → Option R) : call (E179 N) S179 101 B179 R179 [.v (.one (.ints .u64 4 x)), .v (.one (.ints .u64 4 y))] k = f179_raw N x y k := by kernel_rfl
end Go.Proofs.YtogcijgklnfjjaaGreat

namespace Go.Proofs.YtogcijgklnfjjaaGreat
open Go Go.Eng
set_option maxRecDepth 100000
set_option linter.unusedVariables false

noncomputable def f115_raw {R : Type} (N : Nat) (x : List Int) (y : List Int) (k : List DV → Option R) : Option R :=
 bif Decidable.decide (addHi (x.getD (mulE (Int.toNat 0) 1) 0) (y.getD (mulE (Int.toNat 0) 1) 0) 0 = 0) || Decidable.decide (addHi (x.getD (mulE (Int.toNat 0) 1) 0) (y.getD (mulE (Int.toNat 0) 1) 0) 0 = 1) then
 let v0 : Int := IntKind.i64.wrap (0 + 1);
 bif Decidable.decide (addHi (x.getD (mulE v0.toNat 1) 0) (y.getD (mulE v0.toNat 1) 0) (addHi (x.getD (mulE (Int.toNat 0) 1) 0) (y.getD (mulE (Int.toNat 0) 1) 0) 0) = 0) || Decidable.decide (addHi (x.getD (mulE v0.toNat 1) 0) (y.getD (mulE v0.toNat 1) 0) (addHi (x.getD (mulE (Int.toNat 0) 1) 0) (y.getD (mulE (Int.toNat 0) 1) 0) 0) = 1) then
 let v1 : Int := IntKind.i64.wrap (v0 + 1);
 bif Decidable.decide (addHi (x.getD (mulE v1.toNat 1) 0) (y.getD (mulE v1.toNat 1) 0) (addHi (x.getD (mulE v0.toNat 1) 0) (y.getD (mulE v0.toNat 1) 0) (addHi (x.getD (mulE (Int.toNat 0) 1) 0) (y.getD (mulE (Int.toNat 0) 1) 0) 0)) = 0) || Decidable.decide (addHi (x.getD (mulE v1.toNat 1) 0) (y.getD (mulE v1.toNat 1) 0) (addHi (x.getD (mulE v0.toNat 1) 0) (y.getD (mulE v0.toNat 1) 0) (addHi (x.getD (mulE (Int.toNat 0) 1) 0) (y.getD (mulE (Int.toNat 0) 1) 0) 0)) = 1) then
 let v2 : List Int := (List.replicate 4 0).set (mulE (Int.toNat 0) 1) (addLo (x.getD (mulE (Int.toNat 0) 1) 0) (y.getD (mulE (Int.toNat 0) 1) 0) 0);
 let v3 : List Int := v2.set (mulE v0.toNat 1) (addLo (x.getD (mulE v0.toNat 1) 0) (y.getD (mulE v0.toNat 1) 0) (addHi (x.getD (mulE (Int.toNat 0) 1) 0) (y.getD (mulE (Int.toNat 0) 1) 0) 0));
 let v4 : List Int := v3.set (mulE v1.toNat 1) (addLo (x.getD (mulE v1.toNat 1) 0) (y.getD (mulE v1.toNat 1) 0) (addHi (x.getD (mulE v0.toNat 1) 0) (y.getD (mulE v0.toNat 1) 0) (addHi (x.getD (mulE (Int.toNat 0) 1) 0) (y.getD (mulE (Int.toNat 0) 1) 0) 0)));
 let v5 : Int := IntKind.i64.wrap (v1 + 1);
 let v6 : List Int := v4.set (mulE v5.toNat 1) (addLo (x.getD (mulE v5.toNat 1) 0) (y.getD (mulE v5.toNat 1) 0) (addHi (x.getD (mulE v1.toNat 1) 0) (y.getD (mulE v1.toNat 1) 0) (addHi (x.getD (mulE v0.toNat 1) 0) (y.getD (mulE v0.toNat 1) 0) (addHi (x.getD (mulE (Int.toNat 0) 1) 0) (y.getD (mulE (Int.toNat 0) 1) 0) 0))));
 k [DV.v (SV.one (At.ints IntKind.u64 4 (lowL v6)))]
 else Option.none
 else Option.none
else Option.none


noncomputable def E115 (N : Nat) : Env := { Θ := Th, Γ := G54, K := K115, ν := N115, fuel := 20, lp := [] }


theorem f115_contract (N : Nat) (hΓ : CtxOk Tryz.prog G54) : Contract Tryz.prog 115 { sig := S115, impl := fun _ ds k => call (E115 N) S115 27 B115 R115 ds k } :=
  call_contract (E := E115 N) thOk hΓ mixed ok115.look ok115.body ok115.n ok115.rv ok115.name rfl (by decide) (loopsOk_of (l := [(0, B115_0)]) (by kernel_rfl) (allOk_skip rfl trivial))
theorem f115_raw_eq {R : Type} (N : Nat) (x : List Int) (y : List Int) (k : List DV → Option R) : call (E115 N) S115 27 B115 R115 [.v (.one (.ints .u64 4 x)), .v (.one (.ints .u64 4 y))] k = f115_raw N x y k := by kernel_rfl
end Go.Proofs.YtogcijgklnfjjaaGreat

namespace Go.Proofs.YtogcijgklnfjjaaGreat
open Go Go.Eng
set_option maxRecDepth 100000
set_option linter.unusedVariables false

noncomputable def f134_raw {R : Type} (N : Nat) (x : List Int) (k : List DV → Option R) : Option R :=
 bif Decidable.decide (x = List.replicate 4 0) then k [DV.v (SV.one (At.ints IntKind.u64 4 x))] else k [DV.v (SV.one (At.ints IntKind.u64 4 (lessL ordW x)))]


noncomputable def E134 (N : Nat) : Env := { Θ := Th, Γ := G79, K := K134, ν := N134, fuel := 20, lp := [] }


theorem f134_contract (N : Nat) (hΓ : CtxOk Tryz.prog G79) : Contract Tryz.prog 134 { sig := S134, impl := fun _ ds k => call (E134 N) S134 16 B134 R134 ds k } :=
  call_contract (E := E134 N) thOk hΓ mixed ok134.look ok134.body ok134.n ok134.rv ok134.name rfl (by decide) (loopsOk_of (l := []) (by kernel_rfl) trivial)
theorem f134_raw_eq {R : Type} (N : Nat) (x : List Int) (k : List DV → Option R) : call (E134 N) S134 16 B134 R134 [.v (.one (.ints .u64 4 x))] k = f134_raw N x k := by kernel_rfl
end Go.Proofs.YtogcijgklnfjjaaGreat

namespace Go.Proofs.YtogcijgklnfjjaaGreat
open Go Go.Eng
set_option maxRecDepth 100000
set_option linter.unusedVariables false

noncomputable def f116_raw {R : Type} (N : Nat) (x : List Int) (k : List DV → Option R) : Option R :=
 k [DV.v (SV.one (At.ints IntKind.u64 4 (lowL (lowL (lowL (lowL (lowL (lowL (lowL (lowL (lowL (lowL (lowL (lowL (lowL (lowL (lowL (lowL (fromL x)))))))))))))))))))]


noncomputable def E116 (N : Nat) : Env := { Θ := Th, Γ := G55, K := K116, ν := N116, fuel := 60, lp := [] }


theorem f116_contract (N : Nat) (hΓ : CtxOk Tryz.prog G55) : Contract Tryz.prog 116 { sig := S116, impl := fun _ ds k => call (E116 N) S116 12 B116 R116 ds k } :=
  call_contract (E := E116 N) thOk hΓ mixed ok116.look ok116.body ok116.n ok116.rv ok116.name rfl (by decide) (loopsOk_of (l := [(0, B116_0)]) (by kernel_rfl) (allOk_skip rfl trivial))
theorem f116_raw_eq {R : Type} (N : Nat) (x : List Int) (k : List DV → Option R) : call (E116 N) S116 12 B116 R116 [.v (.one (.ints .u8 32 x))] k = f116_raw N x k := by kernel_rfl
end Go.Proofs.YtogcijgklnfjjaaGreat

namespace Go.Eng
open Go

theorem wrapMod {k : IntKind} (hk : k.signed = false) (n : Nat) : k.wrap (n : Int) = ((n % 2 ^ k.bits : Nat) : Int) := by
  unfold IntKind.wrap
  simp only [hk, Bool.false_and, Bool.false_eq_true, if_false]
  rfl

theorem wrapFit {k : IntKind} (hk : k.signed = false) {n : Nat} (h : n < 2 ^ k.bits) : k.wrap (n : Int) = (n : Int) := by
  rw [wrapMod hk, Nat.mod_eq_of_lt h]

theorem w64 {n : Nat} (h : n < 18446744073709551616) : IntKind.u64.wrap (n : Int) = (n : Int) := wrapFit rfl h
theorem w32 {n : Nat} (h : n < 4294967296) : IntKind.u32.wrap (n : Int) = (n : Int) := wrapFit rfl h
theorem w8 {n : Nat} (h : n < 256) : IntKind.u8.wrap (n : Int) = (n : Int) := wrapFit rfl h
theorem wm64 (n : Nat) : IntKind.u64.wrap (n : Int) = ((n % 18446744073709551616 : Nat) : Int) := wrapMod rfl n
theorem wm32 (n : Nat) : IntKind.u32.wrap (n : Int) = ((n % 4294967296 : Nat) : Int) := wrapMod rfl n
theorem wm8 (n : Nat) : IntKind.u8.wrap (n : Int) = ((n % 256 : Nat) : Int) := wrapMod rfl n
theorem wi64 {n : Nat} (h : n < 9223372036854775808) : IntKind.i64.wrap (n : Int) = (n : Int) := by
  simp [IntKind.wrap, IntKind.bits, IntKind.signed]; omega

theorem shrN {k : IntKind} {m : Nat} (hm : m ≤ k.bits) (n : Nat) : shrI k (n : Int) (m : Int) = ((n / 2 ^ m : Nat) : Int) := by
  unfold shrI
  rw [Int.toNat_natCast, Nat.min_eq_left hm]
  rw [Int.fdiv_eq_ediv_of_nonneg _ (by exact Int.le_of_lt (Int.pow_pos (by decide)))]
  simp

theorem shlN {k : IntKind} (hk : k.signed = false) {m : Nat} (hm : m ≤ k.bits) (n : Nat) : shlI k (n : Int) (m : Int) = ((n * 2 ^ m % 2 ^ k.bits : Nat) : Int) := by
  unfold shlI
  rw [Int.toNat_natCast, Nat.min_eq_left hm]
  rw [show (n : Int) * 2 ^ m = ((n * 2 ^ m : Nat) : Int) by simp, wrapMod hk]

theorem bvNat {w n : Nat} (h : n < 2 ^ w) : (BitVec.ofInt w (n : Int)).toNat = n := by
  rw [BitVec.ofInt_natCast, BitVec.toNat_ofNat, Nat.mod_eq_of_lt h]

theorem andN {k : IntKind} (hk : k.signed = false) {a b : Nat} (ha : a < 2 ^ k.bits) (hb : b < 2 ^ k.bits) : andI k (a : Int) (b : Int) = ((a &&& b : Nat) : Int) := by
  unfold andI
  rw [BitVec.toNat_and, bvNat ha, bvNat hb]
  exact wrapFit hk (Nat.lt_of_le_of_lt Nat.and_le_left ha)

theorem orN {k : IntKind} (hk : k.signed = false) {a b : Nat} (ha : a < 2 ^ k.bits) (hb : b < 2 ^ k.bits) : orI k (a : Int) (b : Int) = ((a ||| b : Nat) : Int) := by
  unfold orI
  rw [BitVec.toNat_or, bvNat ha, bvNat hb]
  exact wrapFit hk (Nat.or_lt_two_pow ha hb)

theorem maskN {k : IntKind} (hk : k.signed = false) {a j : Nat} (ha : a < 2 ^ k.bits) (hj : j ≤ k.bits) : andI k (a : Int) ((2 ^ j - 1 : Nat) : Int) = ((a % 2 ^ j : Nat) : Int) := by
  rw [andN hk ha (Nat.lt_of_lt_of_le (Nat.sub_lt (Nat.two_pow_pos j) (by decide)) (Nat.pow_le_pow_right (by decide) hj)), Nat.and_two_pow_sub_one_eq_mod]

theorem or_addN {a b j : Nat} (hb : b < 2 ^ j) : (a * 2 ^ j) ||| b = a * 2 ^ j + b := by
  rw [Nat.mul_comm, Nat.two_pow_add_eq_or_of_lt hb]

theorem or_addN' {a b j : Nat} (hb : b < 2 ^ j) : b ||| (a * 2 ^ j) = b + a * 2 ^ j := by
  rw [Nat.or_comm, or_addN hb, Nat.add_comm]

def nats (l : List Nat) : List Int := l.map Int.ofNat

theorem nats_getD (l : List Nat) (i : Nat) : (nats l).getD i 0 = ((l.getD i 0 : Nat) : Int) := by
  simp only [nats, List.getD_eq_getElem?_getD, List.getElem?_map]
  cases l[i]? <;> rfl

theorem nats_set (l : List Nat) (i n : Nat) : (nats l).set i (n : Int) = nats (l.set i n) := by
  simp [nats, List.map_set]

theorem nats_length (l : List Nat) : (nats l).length = l.length := by simp [nats]

theorem nats_of {xs : List Int} (h : ∀ x ∈ xs, 0 ≤ x) : ∃ l : List Nat, xs = nats l := by
  induction xs with
  | nil => exact ⟨[], rfl⟩
  | cons x xs ih =>
    obtain ⟨l, e⟩ := ih fun y hy => h y (.tail _ hy)
    have hx := h x (.head _)
    exact ⟨x.toNat :: l, by rw [e]; simp [nats]; omega⟩

def valB (b : Nat) : List Nat → Nat
  | [] => 0
  | x :: l => x + b * valB b l

theorem valB_append (b : Nat) : ∀ (l m : List Nat), valB b (l ++ m) = valB b l + b ^ l.length * valB b m
  | [], m => by simp [valB]
  | x :: l, m => by
    rw [List.cons_append, valB, valB_append b l m, valB, List.length_cons, Nat.pow_succ]
    rw [Nat.mul_add, Nat.add_assoc, ← Nat.mul_assoc b, Nat.mul_comm b (b ^ l.length)]

theorem valB_lt {b : Nat} (hb : 0 < b) : ∀ {l : List Nat}, (∀ x ∈ l, x < b) → valB b l < b ^ l.length
  | [], _ => by simp [valB]
  | x :: l, h => by
    have h1 := h x (.head _)
    have h2 := valB_lt hb (l := l) fun y hy => h y (.tail _ hy)
    rw [valB, List.length_cons, Nat.pow_succ, Nat.mul_comm _ b]
    have h3 : b * (valB b l + 1) ≤ b * b ^ l.length := Nat.mul_le_mul_left b h2
    rw [Nat.mul_add] at h3
    omega

theorem valB_inj {b : Nat} (hb : 0 < b) : ∀ {l m : List Nat}, l.length = m.length → (∀ x ∈ l, x < b) → (∀ x ∈ m, x < b) → valB b l = valB b m → l = m
  | [], [], _, _, _, _ => rfl
  | [], _ :: _, h, _, _, _ => by simp at h
  | _ :: _, [], h, _, _, _ => by simp at h
  | x :: l, y :: m, h, h1, h2, h3 => by
    have hx := h1 x (.head _)
    have hy := h2 y (.head _)
    simp only [valB] at h3
    have e1 : (x + b * valB b l) % b = x := by rw [Nat.add_mul_mod_self_left, Nat.mod_eq_of_lt hx]
    have e2 : (y + b * valB b m) % b = y := by rw [Nat.add_mul_mod_self_left, Nat.mod_eq_of_lt hy]
    have e : x = y := by rw [← e1, ← e2, h3]
    subst e
    have h4 : valB b l = valB b m := Nat.eq_of_mul_eq_mul_left hb (by omega)
    rw [valB_inj hb (by simpa using h) (fun z hz => h1 z (.tail _ hz)) (fun z hz => h2 z (.tail _ hz)) h4]

def digs (b : Nat) : Nat → Nat → List Nat
  | 0, _ => []
  | m + 1, n => n % b :: digs b m (n / b)

theorem digs_length (b : Nat) : ∀ (m n : Nat), (digs b m n).length = m
  | 0, _ => rfl
  | m + 1, n => by simp [digs, digs_length b m]

theorem digs_val (b : Nat) : ∀ (m n : Nat), valB b (digs b m n) = n % b ^ m
  | 0, n => by simp [digs, valB, Nat.mod_one]
  | m + 1, n => by
    rw [digs, valB, digs_val b m, Nat.pow_succ, Nat.mul_comm _ b, Nat.mod_mul]

theorem digs_lt {b : Nat} (hb : 0 < b) : ∀ {m n : Nat}, ∀ x ∈ digs b m n, x < b
  | 0, _, x, h => by cases h
  | m + 1, n, x, h => by
    rcases List.mem_cons.1 h with e | h
    · subst e; exact Nat.mod_lt _ hb
    · exact digs_lt hb x h

theorem digs_of {b : Nat} (hb : 0 < b) {l : List Nat} (h : ∀ x ∈ l, x < b) : digs b l.length (valB b l) = l :=
  valB_inj hb (digs_length _ _ _) (digs_lt hb) h (by rw [digs_val, Nat.mod_eq_of_lt (valB_lt hb h)])

end Go.Eng

namespace Go.Eng
open Go

end Go.Eng

namespace Go.Eng

theorem getD_mid {α : Type} {A B : List α} {x d : α} {i : Nat} (h : A.length = i) : (A ++ x :: B).getD i d = x := by
  subst h
  simp [List.getD_eq_getElem?_getD]
theorem set_mid {α : Type} {A B : List α} {x y : α} {i : Nat} (h : A.length = i) : (A ++ x :: B).set i y = A ++ y :: B := by
  subst h
  simp

theorem valB_cons (b x : Nat) (l : List Nat) : valB b (x :: l) = x + b * valB b l := rfl

end Go.Eng

namespace Go.Proofs.YtogcijgklnfjjaaGreat
open Go Go.Eng
set_option maxRecDepth 100000

theorem mulLo_nat (x y : Nat) : mulLo (x : Int) (y : Int) = ((x * y % 18446744073709551616 : Nat) : Int) := wm64 (x * y)

theorem mulHi_eq (x y : Int) : mulHi x y =
    (let xl := andI .u64 x 4294967295; let xh := shrI .u64 x 32; let yl := andI .u64 y 4294967295; let yh := shrI .u64 y 32
     let t := IntKind.u64.wrap (IntKind.u64.wrap (xh * yl) + shrI .u64 (IntKind.u64.wrap (xl * yl)) 32)
     IntKind.u64.wrap (IntKind.u64.wrap (IntKind.u64.wrap (xh * yh) + shrI .u64 t 32) + shrI .u64 (IntKind.u64.wrap (andI .u64 t 4294967295 + IntKind.u64.wrap (xl * yh))) 32)) := by kernel_rfl

theorem shr32 (n : Nat) : shrI .u64 (n : Int) 32 = ((n / 4294967296 : Nat) : Int) := shrN (k := .u64) (m := 32) (by decide) n
theorem and32 {n : Nat} (h : n < 18446744073709551616) : andI .u64 (n : Int) 4294967295 = ((n % 4294967296 : Nat) : Int) := maskN (k := .u64) (j := 32) rfl h (by decide)

theorem mul32 {a b : Nat} (ha : a < 4294967296) (hb : b < 4294967296) : a * b ≤ 18446744065119617025 := by
  have : a * b ≤ 4294967295 * 4294967295 := Nat.mul_le_mul (by omega) (by omega)
  omega

theorem mulHi_nat {x y : Nat} (hx : x < 18446744073709551616) (hy : y < 18446744073709551616) : mulHi (x : Int) (y : Int) = ((x * y / 18446744073709551616 : Nat) : Int) := by
  rw [mulHi_eq]
  dsimp only
  rw [and32 hx, and32 hy, shr32, shr32]
  have exy : x * y = (x / 4294967296) * (y / 4294967296) * 18446744073709551616 + ((x / 4294967296) * (y % 4294967296) + (x % 4294967296) * (y / 4294967296)) * 4294967296 + (x % 4294967296) * (y % 4294967296) := by
    have ex := Nat.div_add_mod x 4294967296
    have ey := Nat.div_add_mod y 4294967296
    generalize x / 4294967296 = a at *
    generalize x % 4294967296 = b at *
    generalize y / 4294967296 = c at *
    generalize y % 4294967296 = d at *
    rw [← ex, ← ey, Nat.add_mul, Nat.mul_add, Nat.mul_add]
    have e1 : 4294967296 * a * (4294967296 * c) = a * c * 18446744073709551616 := by
      rw [Nat.mul_mul_mul_comm]; omega
    have e2 : 4294967296 * a * d = a * d * 4294967296 := by rw [Nat.mul_assoc]; omega
    have e3 : b * (4294967296 * c) = b * c * 4294967296 := by rw [Nat.mul_left_comm]; omega
    rw [e1, e2, e3, Nat.add_mul]; omega
  rw [exy]
  have hxh : x / 4294967296 < 4294967296 := by omega
  have hyh : y / 4294967296 < 4294967296 := by omega
  have hxl := Nat.mod_lt x (show 4294967296 > 0 by decide)
  have hyl := Nat.mod_lt y (show 4294967296 > 0 by decide)
  have b1 := mul32 hxl hyl
  have b2 := mul32 hxh hyl
  have b3 := mul32 hxl hyh
  have b4 := mul32 hxh hyh
  generalize x / 4294967296 = a at *
  generalize x % 4294967296 = b at *
  generalize y / 4294967296 = c at *
  generalize y % 4294967296 = d at *
  have w1 : IntKind.u64.wrap ((b : Int) * (d : Int)) = ((b * d : Nat) : Int) := w64 (n := b * d) (by omega)
  have w2 : IntKind.u64.wrap ((a : Int) * (d : Int)) = ((a * d : Nat) : Int) := w64 (n := a * d) (by omega)
  have w3 : IntKind.u64.wrap ((b : Int) * (c : Int)) = ((b * c : Nat) : Int) := w64 (n := b * c) (by omega)
  have w4 : IntKind.u64.wrap ((a : Int) * (c : Int)) = ((a * c : Nat) : Int) := w64 (n := a * c) (by omega)
  rw [w1, w2, w3, w4]
  generalize b * d = P at *
  generalize a * d = Q at *
  generalize b * c = U at *
  generalize a * c = V at *
  rw [shr32, show IntKind.u64.wrap ((Q : Int) + ((P / 4294967296 : Nat) : Int)) = ((Q + P / 4294967296 : Nat) : Int) from w64 (n := Q + P / 4294967296) (by omega)]
  rw [shr32, and32 (by omega)]
  rw [show IntKind.u64.wrap ((V : Int) + (((Q + P / 4294967296) / 4294967296 : Nat) : Int)) = ((V + (Q + P / 4294967296) / 4294967296 : Nat) : Int) from w64 (n := V + (Q + P / 4294967296) / 4294967296) (by omega)]
  rw [show IntKind.u64.wrap ((((Q + P / 4294967296) % 4294967296 : Nat) : Int) + (U : Int)) = (((Q + P / 4294967296) % 4294967296 + U : Nat) : Int) from w64 (n := (Q + P / 4294967296) % 4294967296 + U) (by omega)]
  rw [shr32]
  refine (w64 (n := V + (Q + P / 4294967296) / 4294967296 + ((Q + P / 4294967296) % 4294967296 + U) / 4294967296) (by omega)).trans ?_
  congr 1
  omega

theorem addLo_nat (x y c : Nat) : addLo (x : Int) (y : Int) (c : Int) = (((x + y + c) % 18446744073709551616 : Nat) : Int) := by
  unfold addLo; simp
theorem addHi_nat (x y c : Nat) : addHi (x : Int) (y : Int) (c : Int) = (((x + y + c) / 18446744073709551616 : Nat) : Int) := by
  unfold addHi; simp


theorem ma_nat {x y z c : Nat} (hx : x < 18446744073709551616) (hy : y < 18446744073709551616) (hz : z < 18446744073709551616) (hc : c < 18446744073709551616) :
    maLo (x : Int) (y : Int) (z : Int) (c : Int) = (((x * y + z + c) % 18446744073709551616 : Nat) : Int) ∧ maHi (x : Int) (y : Int) (z : Int) (c : Int) = (((x * y + z + c) / 18446744073709551616 : Nat) : Int) := by
  have hp : x * y ≤ 18446744073709551615 * 18446744073709551615 := Nat.mul_le_mul (by omega) (by omega)
  unfold maLo maHi
  rw [mulLo_nat, mulHi_nat hx hy, show (0 : Int) = ((0 : Nat) : Int) from rfl, addLo_nat, addHi_nat, addLo_nat, addHi_nat]
  generalize x * y = P at *
  rw [show IntKind.u64.wrap (((P / 18446744073709551616 : Nat) : Int) + (((P % 18446744073709551616 + z + 0) / 18446744073709551616 : Nat) : Int)) = ((P / 18446744073709551616 + (P % 18446744073709551616 + z + 0) / 18446744073709551616 : Nat) : Int) from w64 (n := P / 18446744073709551616 + (P % 18446744073709551616 + z + 0) / 18446744073709551616) (by omega)]
  refine ⟨congrArg Int.ofNat (by omega), ?_⟩
  refine (w64 (n := P / 18446744073709551616 + (P % 18446744073709551616 + z + 0) / 18446744073709551616 + ((P % 18446744073709551616 + z + 0) % 18446744073709551616 + c + 0) / 18446744073709551616) (by omega)).trans ?_
  exact congrArg Int.ofNat (by omega)

theorem sub_nat {x y c : Nat} (hx : x < 18446744073709551616) (hy : y < 18446744073709551616) (hc : c ≤ 1) :
    ∃ d b : Nat, subLo (x : Int) (y : Int) (c : Int) = (d : Int) ∧ subHi (x : Int) (y : Int) (c : Int) = (b : Int) ∧ d < 18446744073709551616 ∧ b ≤ 1 ∧ d + y + c = x + 18446744073709551616 * b := by
  refine ⟨(x + 18446744073709551616 - y - c) % 18446744073709551616, if x < y + c then 1 else 0, ?_, ?_, Nat.mod_lt _ (by decide), by split <;> omega, by split <;> omega⟩
  · unfold subLo; simp
  · unfold subHi
    simp only [Int.toNat_natCast]
    by_cases h : x < y + c
    · rw [if_pos h, show Nat.blt x (y + c) = true from Nat.ble_eq_true_of_le h]; rfl
    · rw [if_neg h]
      have : Nat.blt x (y + c) = false := by
        cases e : Nat.blt x (y + c)
        · rfl
        · exact absurd (Nat.le_of_ble_eq_true e) h
      rw [this]; rfl

theorem orW {a b : Nat} (j : Nat) (hj : j ≤ 64) (ha : a < 2 ^ j) : orI .u64 (a : Int) (shlI .u64 (b : Int) (j : Int)) = ((a + b % 2 ^ (64 - j) * 2 ^ j : Nat) : Int) := by
  rw [show shlI .u64 (b : Int) (j : Int) = ((b * 2 ^ j % 2 ^ 64 : Nat) : Int) from shlN (k := .u64) rfl hj b]
  have e : b * 2 ^ j % 2 ^ 64 = b % 2 ^ (64 - j) * 2 ^ j := by
    rw [show (2 : Nat) ^ 64 = 2 ^ (64 - j) * 2 ^ j by rw [← Nat.pow_add]; congr 1; omega, Nat.mul_mod_mul_right]
  have h2 : (2 : Nat) ^ j ≤ 2 ^ 64 := Nat.pow_le_pow_right (by decide) hj
  refine (orN (k := .u64) rfl (Nat.lt_of_lt_of_le ha h2) (Nat.mod_lt _ (Nat.two_pow_pos 64))).trans ?_
  rw [show IntKind.u64.bits = 64 from rfl, e, or_addN' ha]

def bytesW (w0 w1 w2 w3 : Int) : List Int := [IntKind.u8.wrap (shrI .u64 w0 0), IntKind.u8.wrap (shrI .u64 w0 8), IntKind.u8.wrap (shrI .u64 w0 16), IntKind.u8.wrap (shrI .u64 w0 24), IntKind.u8.wrap (shrI .u64 w0 32), IntKind.u8.wrap (shrI .u64 w0 40), IntKind.u8.wrap (shrI .u64 w0 48), IntKind.u8.wrap (shrI .u64 w0 56), IntKind.u8.wrap (shrI .u64 w1 0), IntKind.u8.wrap (shrI .u64 w1 8), IntKind.u8.wrap (shrI .u64 w1 16), IntKind.u8.wrap (shrI .u64 w1 24), IntKind.u8.wrap (shrI .u64 w1 32), IntKind.u8.wrap (shrI .u64 w1 40), IntKind.u8.wrap (shrI .u64 w1 48), IntKind.u8.wrap (shrI .u64 w1 56), IntKind.u8.wrap (shrI .u64 w2 0), IntKind.u8.wrap (shrI .u64 w2 8), IntKind.u8.wrap (shrI .u64 w2 16), IntKind.u8.wrap (shrI .u64 w2 24), IntKind.u8.wrap (shrI .u64 w2 32), IntKind.u8.wrap (shrI .u64 w2 40), IntKind.u8.wrap (shrI .u64 w2 48), IntKind.u8.wrap (shrI .u64 w2 56), IntKind.u8.wrap (shrI .u64 w3 0), IntKind.u8.wrap (shrI .u64 w3 8), IntKind.u8.wrap (shrI .u64 w3 16), IntKind.u8.wrap (shrI .u64 w3 24), IntKind.u8.wrap (shrI .u64 w3 32), IntKind.u8.wrap (shrI .u64 w3 40), IntKind.u8.wrap (shrI .u64 w3 48), IntKind.u8.wrap (shrI .u64 w3 56)]
theorem byteW (w i : Nat) (hi : i ≤ 64) : IntKind.u8.wrap (shrI .u64 (w : Int) (i : Int)) = ((w / 2 ^ i % 256 : Nat) : Int) := by
  rw [shrN (k := .u64) hi, wm8]
theorem digs32 (v : Nat) : digs 256 32 v = [v / 1 % 256, v / 256 % 256, v / 65536 % 256, v / 16777216 % 256, v / 4294967296 % 256, v / 1099511627776 % 256, v / 281474976710656 % 256, v / 72057594037927936 % 256, v / 18446744073709551616 % 256, v / 4722366482869645213696 % 256, v / 1208925819614629174706176 % 256, v / 309485009821345068724781056 % 256, v / 79228162514264337593543950336 % 256, v / 20282409603651670423947251286016 % 256, v / 5192296858534827628530496329220096 % 256, v / 1329227995784915872903807060280344576 % 256, v / 340282366920938463463374607431768211456 % 256, v / 87112285931760246646623899502532662132736 % 256, v / 22300745198530623141535718272648361505980416 % 256, v / 5708990770823839524233143877797980545530986496 % 256, v / 1461501637330902918203684832716283019655932542976 % 256, v / 374144419156711147060143317175368453031918731001856 % 256, v / 95780971304118053647396689196894323976171195136475136 % 256, v / 24519928653854221733733552434404946937899825954937634816 % 256, v / 6277101735386680763835789423207666416102355444464034512896 % 256, v / 1606938044258990275541962092341162602522202993782792835301376 % 256, v / 411376139330301510538742295639337626245683966408394965837152256 % 256, v / 105312291668557186697918027683670432318895095400549111254310977536 % 256, v / 26959946667150639794667015087019630673637144422540572481103610249216 % 256, v / 6901746346790563787434755862277025452451108972170386555162524223799296 % 256, v / 1766847064778384329583297500742918515827483896875618958121606201292619776 % 256, v / 452312848583266388373324160190187140051835877600158453279131187530910662656 % 256] := by
  simp [digs, Nat.div_div_eq_div_mul]
def word8 (x0 x1 x2 x3 x4 x5 x6 x7 : Int) : Int := (orI .u64 (orI .u64 (orI .u64 (orI .u64 (orI .u64 (orI .u64 (orI .u64 (orI .u64 0 (shlI .u64 (IntKind.u64.wrap x0) 0)) (shlI .u64 (IntKind.u64.wrap x1) 8)) (shlI .u64 (IntKind.u64.wrap x2) 16)) (shlI .u64 (IntKind.u64.wrap x3) 24)) (shlI .u64 (IntKind.u64.wrap x4) 32)) (shlI .u64 (IntKind.u64.wrap x5) 40)) (shlI .u64 (IntKind.u64.wrap x6) 48)) (shlI .u64 (IntKind.u64.wrap x7) 56))
theorem word8_nat {x0 x1 x2 x3 x4 x5 x6 x7 : Nat} (h0 : x0 < 256) (h1 : x1 < 256) (h2 : x2 < 256) (h3 : x3 < 256) (h4 : x4 < 256) (h5 : x5 < 256) (h6 : x6 < 256) (h7 : x7 < 256) :
    word8 (x0 : Int) (x1 : Int) (x2 : Int) (x3 : Int) (x4 : Int) (x5 : Int) (x6 : Int) (x7 : Int) = ((x0 * 1 + x1 * 256 + x2 * 65536 + x3 * 16777216 + x4 * 4294967296 + x5 * 1099511627776 + x6 * 281474976710656 + x7 * 72057594037927936 : Nat) : Int) := by
  unfold word8
  rw [w64 (n := x0) (by omega), w64 (n := x1) (by omega), w64 (n := x2) (by omega), w64 (n := x3) (by omega), w64 (n := x4) (by omega), w64 (n := x5) (by omega), w64 (n := x6) (by omega), w64 (n := x7) (by omega)]
  rw [show (0 : Int) = ((0 : Nat) : Int) from rfl]
  rw [show orI .u64 ((0 : Nat) : Int) (shlI .u64 (x0 : Int) ((0 : Nat) : Int)) = ((0 + x0 * 1 : Nat) : Int) from (orW 0 (by decide) (by omega)).trans (congrArg Int.ofNat (show 0 + x0 % 18446744073709551616 * 1 = 0 + x0 * 1 by omega))]
  rw [show orI .u64 ((0 + x0 * 1 : Nat) : Int) (shlI .u64 (x1 : Int) 8) = ((0 + x0 * 1 + x1 * 256 : Nat) : Int) from (orW 8 (by decide) (by omega)).trans (congrArg Int.ofNat (show 0 + x0 * 1 + x1 % 72057594037927936 * 256 = 0 + x0 * 1 + x1 * 256 by omega))]
  rw [show orI .u64 ((0 + x0 * 1 + x1 * 256 : Nat) : Int) (shlI .u64 (x2 : Int) 16) = ((0 + x0 * 1 + x1 * 256 + x2 * 65536 : Nat) : Int) from (orW 16 (by decide) (by omega)).trans (congrArg Int.ofNat (show 0 + x0 * 1 + x1 * 256 + x2 % 281474976710656 * 65536 = 0 + x0 * 1 + x1 * 256 + x2 * 65536 by omega))]
  rw [show orI .u64 ((0 + x0 * 1 + x1 * 256 + x2 * 65536 : Nat) : Int) (shlI .u64 (x3 : Int) 24) = ((0 + x0 * 1 + x1 * 256 + x2 * 65536 + x3 * 16777216 : Nat) : Int) from (orW 24 (by decide) (by omega)).trans (congrArg Int.ofNat (show 0 + x0 * 1 + x1 * 256 + x2 * 65536 + x3 % 1099511627776 * 16777216 = 0 + x0 * 1 + x1 * 256 + x2 * 65536 + x3 * 16777216 by omega))]
  rw [show orI .u64 ((0 + x0 * 1 + x1 * 256 + x2 * 65536 + x3 * 16777216 : Nat) : Int) (shlI .u64 (x4 : Int) 32) = ((0 + x0 * 1 + x1 * 256 + x2 * 65536 + x3 * 16777216 + x4 * 4294967296 : Nat) : Int) from (orW 32 (by decide) (by omega)).trans (congrArg Int.ofNat (show 0 + x0 * 1 + x1 * 256 + x2 * 65536 + x3 * 16777216 + x4 % 4294967296 * 4294967296 = 0 + x0 * 1 + x1 * 256 + x2 * 65536 + x3 * 16777216 + x4 * 4294967296 by omega))]
  rw [show orI .u64 ((0 + x0 * 1 + x1 * 256 + x2 * 65536 + x3 * 16777216 + x4 * 4294967296 : Nat) : Int) (shlI .u64 (x5 : Int) 40) = ((0 + x0 * 1 + x1 * 256 + x2 * 65536 + x3 * 16777216 + x4 * 4294967296 + x5 * 1099511627776 : Nat) : Int) from (orW 40 (by decide) (by omega)).trans (congrArg Int.ofNat (show 0 + x0 * 1 + x1 * 256 + x2 * 65536 + x3 * 16777216 + x4 * 4294967296 + x5 % 16777216 * 1099511627776 = 0 + x0 * 1 + x1 * 256 + x2 * 65536 + x3 * 16777216 + x4 * 4294967296 + x5 * 1099511627776 by omega))]
  rw [show orI .u64 ((0 + x0 * 1 + x1 * 256 + x2 * 65536 + x3 * 16777216 + x4 * 4294967296 + x5 * 1099511627776 : Nat) : Int) (shlI .u64 (x6 : Int) 48) = ((0 + x0 * 1 + x1 * 256 + x2 * 65536 + x3 * 16777216 + x4 * 4294967296 + x5 * 1099511627776 + x6 * 281474976710656 : Nat) : Int) from (orW 48 (by decide) (by omega)).trans (congrArg Int.ofNat (show 0 + x0 * 1 + x1 * 256 + x2 * 65536 + x3 * 16777216 + x4 * 4294967296 + x5 * 1099511627776 + x6 % 65536 * 281474976710656 = 0 + x0 * 1 + x1 * 256 + x2 * 65536 + x3 * 16777216 + x4 * 4294967296 + x5 * 1099511627776 + x6 * 281474976710656 by omega))]
  rw [show orI .u64 ((0 + x0 * 1 + x1 * 256 + x2 * 65536 + x3 * 16777216 + x4 * 4294967296 + x5 * 1099511627776 + x6 * 281474976710656 : Nat) : Int) (shlI .u64 (x7 : Int) 56) = ((0 + x0 * 1 + x1 * 256 + x2 * 65536 + x3 * 16777216 + x4 * 4294967296 + x5 * 1099511627776 + x6 * 281474976710656 + x7 * 72057594037927936 : Nat) : Int) from (orW 56 (by decide) (by omega)).trans (congrArg Int.ofNat (show 0 + x0 * 1 + x1 * 256 + x2 * 65536 + x3 * 16777216 + x4 * 4294967296 + x5 * 1099511627776 + x6 * 281474976710656 + x7 % 256 * 72057594037927936 = 0 + x0 * 1 + x1 * 256 + x2 * 65536 + x3 * 16777216 + x4 * 4294967296 + x5 * 1099511627776 + x6 * 281474976710656 + x7 * 72057594037927936 by omega))]
  congr 1; omega

theorem len32 {l : List Nat} (h : l.length = 32) : ∃ x0 x1 x2 x3 x4 x5 x6 x7 x8 x9 x10 x11 x12 x13 x14 x15 x16 x17 x18 x19 x20 x21 x22 x23 x24 x25 x26 x27 x28 x29 x30 x31, l = [x0, x1, x2, x3, x4, x5, x6, x7, x8, x9, x10, x11, x12, x13, x14, x15, x16, x17, x18, x19, x20, x21, x22, x23, x24, x25, x26, x27, x28, x29, x30, x31] := by
  match l, h with
  | [x0, x1, x2, x3, x4, x5, x6, x7, x8, x9, x10, x11, x12, x13, x14, x15, x16, x17, x18, x19, x20, x21, x22, x23, x24, x25, x26, x27, x28, x29, x30, x31], _ => exact ⟨x0, x1, x2, x3, x4, x5, x6, x7, x8, x9, x10, x11, x12, x13, x14, x15, x16, x17, x18, x19, x20, x21, x22, x23, x24, x25, x26, x27, x28, x29, x30, x31, rfl⟩


end Go.Proofs.YtogcijgklnfjjaaGreat

namespace Go.Proofs.YtogcijgklnfjjaaGreat
open Go Go.Eng
set_option maxRecDepth 100000

noncomputable def stk {α : Type} (a : α) : { b : α // b = a } := Classical.choice ⟨⟨a, rfl⟩⟩
@[irreducible] def ell : Nat := 7237005577332262213973186563042994240857116359379907606001950938285454250989
def WW : Nat := 18446744073709551616
def okW (x : List Int) : Bool := decide (x.length = 4) && x.all (fun b => decide (0 ≤ b) && decide (b < 18446744073709551616))
def nW (x : List Int) : Nat := valB WW (x.map Int.toNat)
noncomputable def wN : Nat → List Int := (stk fun v => nats (digs WW 4 v)).1
theorem wN_def (v : Nat) : wN v = nats (digs WW 4 v) := congrFun (stk fun v => nats (digs WW 4 v)).2 v
theorem W4 : WW ^ 4 = 115792089237316195423570985008687907853269984665640564039457584007913129639936 := by decide +kernel

theorem nats_toNat (l : List Nat) : (nats l).map Int.toNat = l := by
  unfold nats; rw [List.map_map]; conv => rhs; rw [← List.map_id l]
  rfl
theorem okW_nats {l : List Nat} (hl : l.length = 4) (h : ∀ b ∈ l, b < WW) : okW (nats l) = true := by
  unfold okW
  rw [nats_length, decide_eq_true hl, Bool.true_and, List.all_eq_true]
  intro b hb
  unfold nats at hb
  obtain ⟨n, hn, rfl⟩ := List.mem_map.mp hb
  have := h n hn
  rw [Bool.and_eq_true]
  exact ⟨decide_eq_true (Int.natCast_nonneg n), decide_eq_true (Int.ofNat_lt.mpr this)⟩
theorem okW_of {x : List Int} (h : okW x = true) : ∃ l : List Nat, x = nats l ∧ l.length = 4 ∧ ∀ b ∈ l, b < WW := by
  unfold okW at h
  rw [Bool.and_eq_true, List.all_eq_true] at h
  obtain ⟨h1, h2⟩ := h
  have h3 : ∀ b ∈ x, 0 ≤ b ∧ b < 18446744073709551616 := fun b hb => by
    have := h2 b hb
    rw [Bool.and_eq_true] at this
    exact ⟨of_decide_eq_true this.1, of_decide_eq_true this.2⟩
  obtain ⟨l, rfl⟩ := nats_of (xs := x) fun b hb => (h3 b hb).1
  refine ⟨l, rfl, by rw [← nats_length]; exact of_decide_eq_true h1, fun b hb => ?_⟩
  exact Int.ofNat_lt.mp (h3 b (List.mem_map.mpr ⟨b, hb, rfl⟩)).2
theorem okW_wN (v : Nat) : okW (wN v) = true := by
  rw [wN_def]; exact okW_nats (digs_length _ _ _) (digs_lt (by decide))
theorem nW_nats (l : List Nat) : nW (nats l) = valB WW l := by unfold nW; rw [nats_toNat]
theorem nW_wN {v : Nat} (h : v < WW ^ 4) : nW (wN v) = v := by rw [wN_def, nW_nats, digs_val, Nat.mod_eq_of_lt h]
theorem wN_nW {x : List Int} (h : okW x = true) : wN (nW x) = x := by
  obtain ⟨l, rfl, h1, h2⟩ := okW_of h
  rw [nW_nats, wN_def, ← h1, digs_of (by decide) h2]
theorem nW_lt {x : List Int} (h : okW x = true) : nW x < WW ^ 4 := by
  obtain ⟨l, rfl, h1, h2⟩ := okW_of h
  rw [nW_nats, ← h1]; exact valB_lt (by decide) h2
theorem wN_of {x : List Int} {l : List Nat} {v : Nat} (e : x = nats l) (h1 : l.length = 4) (h2 : ∀ b ∈ l, b < WW) (hv : valB WW l = v) : x = wN v := by
  rw [e, wN_def, ← hv, ← h1, digs_of (by decide) h2]
theorem nW_inj {a b : Nat} (ha : a < WW ^ 4) (hb : b < WW ^ 4) : wN a = wN b ↔ a = b := by
  constructor
  · intro h; rw [← nW_wN ha, ← nW_wN hb, h]
  · intro h; rw [h]
theorem w4_nats {l : List Nat} (h : l.length = 4) : w4 (nats l) = nats l := by
  match l, h with
  | [a, b, c, d], _ => rfl

theorem less_nat : ∀ (l m : List Nat) (c : Nat), l.length = m.length → (∀ x ∈ l, x < WW) → (∀ x ∈ m, x < WW) → c ≤ 1 →
    ∃ (d : List Nat) (b : Nat), lessD (nats l) (nats m) (c : Int) = nats d ∧ lessB (nats l) (nats m) (c : Int) = (b : Int) ∧ d.length = l.length ∧ (∀ x ∈ d, x < WW) ∧ b ≤ 1 ∧ valB WW d + valB WW m + c = valB WW l + WW ^ l.length * b
  | [], [], c, _, _, _, hc => ⟨[], c, rfl, rfl, rfl, by simp, hc, by simp [valB]⟩
  | x :: l, y :: m, c, hl, h1, h2, hc => by
    obtain ⟨d, b, e1, e2, hd, hb, he⟩ := sub_nat (x := x) (y := y) (c := c) (h1 x (by simp)) (h2 y (by simp)) hc
    obtain ⟨ds, b', g1, g2, g3, g4, g5, g6⟩ := less_nat l m b (by simpa using hl) (fun z hz => h1 z (by simp [hz])) (fun z hz => h2 z (by simp [hz])) hb
    refine ⟨d :: ds, b', ?_, ?_, by simp [g3], ?_, g5, ?_⟩
    · show subLo (x : Int) (y : Int) (c : Int) :: lessD (nats l) (nats m) (subHi (x : Int) (y : Int) (c : Int)) = _
      rw [e1, e2, g1]; rfl
    · show lessB (nats l) (nats m) (subHi (x : Int) (y : Int) (c : Int)) = _
      rw [e2, g2]
    · intro z hz
      rcases List.mem_cons.mp hz with rfl | hz
      · exact hd
      · exact g4 z hz
    · simp only [valB, List.length_cons, Nat.pow_succ]
      rw [Nat.mul_comm (WW ^ l.length) WW, Nat.mul_assoc]
      generalize WW ^ l.length * b' = P at *
      unfold WW at *
      omega
  | [], _ :: _, _, h, _, _, _ => by simp at h
  | _ :: _, [], _, h, _, _, _ => by simp at h

theorem less_num {x y : List Int} (hx : okW x = true) (hy : okW y = true) :
    lessL x y = wN ((nW x + WW ^ 4 - nW y) % WW ^ 4) ∧ under x y = if nW x < nW y then 1 else 0 := by
  have bx := nW_lt hx
  have by_ := nW_lt hy
  obtain ⟨l, rfl, h1, h2⟩ := okW_of hx
  obtain ⟨m, rfl, h3, h4⟩ := okW_of hy
  obtain ⟨d, b, e1, e2, hd, hb, hb1, he⟩ := less_nat l m 0 (by rw [h1, h3]) h2 h4 (by decide)
  unfold lessL under
  rw [w4_nats h1, w4_nats h3]
  rw [show lessD (nats l) (nats m) 0 = nats d from e1, show lessB (nats l) (nats m) 0 = (b : Int) from e2]
  rw [nW_nats] at *
  rw [nW_nats] at *
  have hdl := valB_lt (b := WW) (by decide) hb
  rw [hd] at hdl
  rw [h1] at hdl he
  generalize valB WW l = A at *
  generalize valB WW m = B at *
  have hh : d.length = 4 := by rw [hd, h1]
  rcases (show b = 0 ∨ b = 1 by omega) with rfl | rfl
  · rw [Nat.mul_zero] at he
    have hlt : ¬ A < B := by omega
    rw [if_neg hlt]
    refine ⟨wN_of rfl hh hb ?_, rfl⟩
    rw [show A + WW ^ 4 - B = (A - B) + WW ^ 4 by omega, Nat.add_mod_right, Nat.mod_eq_of_lt (by omega)]
    omega
  · rw [Nat.mul_one] at he
    have hlt : A < B := by omega
    rw [if_pos hlt]
    refine ⟨wN_of rfl hh hb ?_, rfl⟩
    rw [Nat.mod_eq_of_lt (by omega)]
    omega

theorem ordW_ok : okW ordW = true := by decide
theorem ordW_num : nW ordW = ell := by decide +kernel
theorem ell_lt : ell < WW ^ 4 := by decide +kernel
theorem radW_ok : okW radW = true := by decide
theorem radW_num : nW radW = WW ^ 8 % ell := by decide +kernel

def lw (v : Nat) : Nat := if v < ell then v else v - ell
theorem lw_lt (v : Nat) : lw v ≤ v := by unfold lw; split <;> omega
theorem low_num {x : List Int} (hx : okW x = true) : lowL x = wN (lw (nW x)) := by
  have h := less_num hx ordW_ok
  have hb := nW_lt hx
  unfold lowL lw
  rw [h.1, h.2, ordW_num]
  by_cases hlt : nW x < ell
  · rw [if_pos hlt, if_pos hlt]
    exact (wN_nW hx).symm
  · have e : (nW x + WW ^ 4 - ell) % WW ^ 4 = nW x - ell := by
      rw [show nW x + WW ^ 4 - ell = (nW x - ell) + WW ^ 4 by omega, Nat.add_mod_right, Nat.mod_eq_of_lt (by omega)]
    rw [if_neg hlt, if_neg hlt, show ((0 : Int) == 0) = true from rfl, cond_true, e]
theorem low_wN {v : Nat} (h : v < WW ^ 4) : lowL (wN v) = wN (lw v) := by
  rw [low_num (okW_wN v), nW_wN h]
end Go.Proofs.YtogcijgklnfjjaaGreat

namespace Go.Proofs.YtogcijgklnfjjaaGreat
open Go Go.Eng
set_option maxRecDepth 100000

theorem ell_def : ell = 7237005577332262213973186563042994240857116359379907606001950938285454250989 := by unfold ell; rfl
def lwN : Nat → Nat → Nat
  | 0, v => v
  | k + 1, v => lw (lwN k v)
theorem lwN_mod : ∀ (k v : Nat), v < (k + 1) * ell → lwN k v % ell = v % ell ∧ lwN k v < ell + (v - k * ell)
  | 0, v, h => ⟨rfl, by show v < _; have : 0 < ell := by rw [ell_def]; decide
                        omega⟩
  | k + 1, v, h => by
    have h0 : 0 < ell := by rw [ell_def]; decide
    by_cases hv : v < (k + 1) * ell
    · obtain ⟨h1, h2⟩ := lwN_mod k v hv
      have e : v - k * ell < ell := by rw [Nat.add_mul] at hv; omega
      show lw (lwN k v) % ell = _ ∧ lw (lwN k v) < _
      unfold lw
      split
      · rename_i hl
        exact ⟨h1, by omega⟩
      · rename_i hl
        refine ⟨?_, by omega⟩
        rw [← Nat.mod_eq_sub_mod (by omega)]; exact h1
    · have aux : ∀ (j : Nat) (v : Nat), j * ell ≤ v → lwN j v = v - j * ell := by
        intro j
        induction j with
        | zero => intro v _; simp [lwN]
        | succ j ih =>
          intro v hj
          have hj' : j * ell + ell ≤ v := by rw [Nat.add_mul] at hj; omega
          show lw (lwN j v) = _
          rw [ih v (by omega)]
          unfold lw
          rw [if_neg (by omega), Nat.add_mul]
          omega
      have e1 := aux (k + 1) v (by omega)
      rw [e1]
      have hm : (v - (k + 1) * ell) % ell = v % ell := by
        conv => rhs; rw [show v = (v - (k + 1) * ell) + (k + 1) * ell by omega]
        rw [Nat.add_mul_mod_self_right]
      exact ⟨hm, by omega⟩
theorem lwN_16 {v : Nat} (h : v < WW ^ 4) : lwN 16 v = v % ell := by
  have h0 : WW ^ 4 ≤ 16 * ell := by rw [W4, ell_def]; decide
  have := lwN_mod 16 v (by rw [Nat.add_mul]; omega)
  rw [← this.1, Nat.mod_eq_of_lt (by omega)]

def okB (x : List Int) : Bool := decide (x.length = 32) && x.all (fun b => decide (0 ≤ b) && decide (b < 256))
def numB (x : List Int) : Nat := valB 256 (x.map Int.toNat)
noncomputable def sN : Nat → List Int := (stk fun v => nats (digs 256 32 v)).1
theorem sN_def (v : Nat) : sN v = nats (digs 256 32 v) := congrFun (stk fun v => nats (digs 256 32 v)).2 v
theorem W4B : WW ^ 4 = 256 ^ 32 := by decide +kernel
theorem okB_nats {l : List Nat} (hl : l.length = 32) (h : ∀ b ∈ l, b < 256) : okB (nats l) = true := by
  unfold okB
  rw [nats_length, decide_eq_true hl, Bool.true_and, List.all_eq_true]
  intro b hb
  unfold nats at hb
  obtain ⟨n, hn, rfl⟩ := List.mem_map.mp hb
  have := h n hn
  rw [Bool.and_eq_true]
  exact ⟨decide_eq_true (Int.natCast_nonneg n), decide_eq_true (Int.ofNat_lt.mpr this)⟩
theorem okB_sN (v : Nat) : okB (sN v) = true := by
  rw [sN_def]; exact okB_nats (digs_length _ _ _) (digs_lt (by decide))
theorem numB_nats (l : List Nat) : numB (nats l) = valB 256 l := by unfold numB; rw [nats_toNat]
theorem numB_sN {v : Nat} (h : v < WW ^ 4) : numB (sN v) = v := by rw [sN_def, numB_nats, digs_val, ← W4B, Nat.mod_eq_of_lt h]
theorem okB_of {x : List Int} (h : okB x = true) : ∃ l : List Nat, x = nats l ∧ l.length = 32 ∧ ∀ b ∈ l, b < 256 := by
  unfold okB at h
  rw [Bool.and_eq_true, List.all_eq_true] at h
  obtain ⟨h1, h2⟩ := h
  have h3 : ∀ b ∈ x, 0 ≤ b ∧ b < 256 := fun b hb => by
    have := h2 b hb
    rw [Bool.and_eq_true] at this
    exact ⟨of_decide_eq_true this.1, of_decide_eq_true this.2⟩
  obtain ⟨l, rfl⟩ := nats_of (xs := x) fun b hb => (h3 b hb).1
  refine ⟨l, rfl, by rw [← nats_length]; exact of_decide_eq_true h1, fun b hb => ?_⟩
  exact Int.ofNat_lt.mp (h3 b (List.mem_map.mpr ⟨b, hb, rfl⟩)).2
theorem numB_lt {x : List Int} (h : okB x = true) : numB x < WW ^ 4 := by
  obtain ⟨l, rfl, h1, h2⟩ := okB_of h
  rw [numB_nats, W4B]
  have := valB_lt (b := 256) (by decide) h2
  rw [h1] at this
  exact this
theorem from_eq (x0 x1 x2 x3 x4 x5 x6 x7 x8 x9 x10 x11 x12 x13 x14 x15 x16 x17 x18 x19 x20 x21 x22 x23 x24 x25 x26 x27 x28 x29 x30 x31 : Int) : fromR [x0, x1, x2, x3, x4, x5, x6, x7, x8, x9, x10, x11, x12, x13, x14, x15, x16, x17, x18, x19, x20, x21, x22, x23, x24, x25, x26, x27, x28, x29, x30, x31] = [word8 x0 x1 x2 x3 x4 x5 x6 x7, word8 x8 x9 x10 x11 x12 x13 x14 x15, word8 x16 x17 x18 x19 x20 x21 x22 x23, word8 x24 x25 x26 x27 x28 x29 x30 x31] := by kernel_rfl
theorem from_nats {l : List Nat} (hl : l.length = 32) (hb : ∀ x ∈ l, x < 256) : fromL (nats l) = wN (valB 256 l) := by
  obtain ⟨x0, x1, x2, x3, x4, x5, x6, x7, x8, x9, x10, x11, x12, x13, x14, x15, x16, x17, x18, x19, x20, x21, x22, x23, x24, x25, x26, x27, x28, x29, x30, x31, rfl⟩ := len32 hl
  simp only [List.mem_cons, List.not_mem_nil, or_false, forall_eq_or_imp, forall_eq] at hb
  obtain ⟨h0, h1, h2, h3, h4, h5, h6, h7, h8, h9, h10, h11, h12, h13, h14, h15, h16, h17, h18, h19, h20, h21, h22, h23, h24, h25, h26, h27, h28, h29, h30, h31⟩ := hb
  rw [fromL_eq]
  refine (from_eq (x0 : Int) (x1 : Int) (x2 : Int) (x3 : Int) (x4 : Int) (x5 : Int) (x6 : Int) (x7 : Int) (x8 : Int) (x9 : Int) (x10 : Int) (x11 : Int) (x12 : Int) (x13 : Int) (x14 : Int) (x15 : Int) (x16 : Int) (x17 : Int) (x18 : Int) (x19 : Int) (x20 : Int) (x21 : Int) (x22 : Int) (x23 : Int) (x24 : Int) (x25 : Int) (x26 : Int) (x27 : Int) (x28 : Int) (x29 : Int) (x30 : Int) (x31 : Int)).trans ?_
  rw [word8_nat h0 h1 h2 h3 h4 h5 h6 h7, word8_nat h8 h9 h10 h11 h12 h13 h14 h15, word8_nat h16 h17 h18 h19 h20 h21 h22 h23, word8_nat h24 h25 h26 h27 h28 h29 h30 h31]
  refine wN_of (l := [_, _, _, _]) rfl rfl ?_ ?_
  · simp only [List.mem_cons, List.not_mem_nil, or_false, forall_eq_or_imp, forall_eq]
    unfold WW
    omega
  · simp only [valB, WW]
    omega
theorem from_num {x : List Int} (h : okB x = true) : fromL x = wN (numB x) := by
  obtain ⟨l, rfl, h1, h2⟩ := okB_of h
  rw [numB_nats]; exact from_nats h1 h2

theorem back_eq (w0 w1 w2 w3 : Int) : backR [w0, w1, w2, w3] = bytesW w0 w1 w2 w3 := by kernel_rfl
theorem digW (v : Nat) (h : v < 115792089237316195423570985008687907853269984665640564039457584007913129639936) : digs WW 4 v = [v % 18446744073709551616, v / 18446744073709551616 % 18446744073709551616, v / 340282366920938463463374607431768211456 % 18446744073709551616, v / 6277101735386680763835789423207666416102355444464034512896] := by
  simp only [digs, WW, Nat.div_div_eq_div_mul, List.cons.injEq, and_true, true_and]
  rw [Nat.mod_eq_of_lt (show v / (18446744073709551616 * (18446744073709551616 * 18446744073709551616)) < 18446744073709551616 by omega)]
theorem back_wN {v : Nat} (h : v < WW ^ 4) : backL (wN v) = sN v := by
  rw [backL_eq, wN_def, sN_def, digW v (by rw [W4] at h; exact h)]
  refine (back_eq ((v % 18446744073709551616 : Nat) : Int) ((v / 18446744073709551616 % 18446744073709551616 : Nat) : Int) ((v / 340282366920938463463374607431768211456 % 18446744073709551616 : Nat) : Int) ((v / 6277101735386680763835789423207666416102355444464034512896 : Nat) : Int)).trans ?_
  rw [digs32]
  unfold bytesW
  rw [show IntKind.u8.wrap (shrI .u64 ((v % 18446744073709551616 : Nat) : Int) 0) = ((v / 1 % 256 : Nat) : Int) from (byteW _ 0 (by decide)).trans (congrArg Int.ofNat (show (v % 18446744073709551616) / 1 % 256 = v / 1 % 256 by omega)),
    show IntKind.u8.wrap (shrI .u64 ((v % 18446744073709551616 : Nat) : Int) 8) = ((v / 256 % 256 : Nat) : Int) from (byteW _ 8 (by decide)).trans (congrArg Int.ofNat (show (v % 18446744073709551616) / 256 % 256 = v / 256 % 256 by omega)),
    show IntKind.u8.wrap (shrI .u64 ((v % 18446744073709551616 : Nat) : Int) 16) = ((v / 65536 % 256 : Nat) : Int) from (byteW _ 16 (by decide)).trans (congrArg Int.ofNat (show (v % 18446744073709551616) / 65536 % 256 = v / 65536 % 256 by omega)),
    show IntKind.u8.wrap (shrI .u64 ((v % 18446744073709551616 : Nat) : Int) 24) = ((v / 16777216 % 256 : Nat) : Int) from (byteW _ 24 (by decide)).trans (congrArg Int.ofNat (show (v % 18446744073709551616) / 16777216 % 256 = v / 16777216 % 256 by omega)),
    show IntKind.u8.wrap (shrI .u64 ((v % 18446744073709551616 : Nat) : Int) 32) = ((v / 4294967296 % 256 : Nat) : Int) from (byteW _ 32 (by decide)).trans (congrArg Int.ofNat (show (v % 18446744073709551616) / 4294967296 % 256 = v / 4294967296 % 256 by omega)),
    show IntKind.u8.wrap (shrI .u64 ((v % 18446744073709551616 : Nat) : Int) 40) = ((v / 1099511627776 % 256 : Nat) : Int) from (byteW _ 40 (by decide)).trans (congrArg Int.ofNat (show (v % 18446744073709551616) / 1099511627776 % 256 = v / 1099511627776 % 256 by omega)),
    show IntKind.u8.wrap (shrI .u64 ((v % 18446744073709551616 : Nat) : Int) 48) = ((v / 281474976710656 % 256 : Nat) : Int) from (byteW _ 48 (by decide)).trans (congrArg Int.ofNat (show (v % 18446744073709551616) / 281474976710656 % 256 = v / 281474976710656 % 256 by omega)),
    show IntKind.u8.wrap (shrI .u64 ((v % 18446744073709551616 : Nat) : Int) 56) = ((v / 72057594037927936 % 256 : Nat) : Int) from (byteW _ 56 (by decide)).trans (congrArg Int.ofNat (show (v % 18446744073709551616) / 72057594037927936 % 256 = v / 72057594037927936 % 256 by omega)),
    show IntKind.u8.wrap (shrI .u64 ((v / 18446744073709551616 % 18446744073709551616 : Nat) : Int) 0) = ((v / 18446744073709551616 % 256 : Nat) : Int) from (byteW _ 0 (by decide)).trans (congrArg Int.ofNat (show (v / 18446744073709551616 % 18446744073709551616) / 1 % 256 = v / 18446744073709551616 % 256 by omega)),
    show IntKind.u8.wrap (shrI .u64 ((v / 18446744073709551616 % 18446744073709551616 : Nat) : Int) 8) = ((v / 4722366482869645213696 % 256 : Nat) : Int) from (byteW _ 8 (by decide)).trans (congrArg Int.ofNat (show (v / 18446744073709551616 % 18446744073709551616) / 256 % 256 = v / 4722366482869645213696 % 256 by omega)),
    show IntKind.u8.wrap (shrI .u64 ((v / 18446744073709551616 % 18446744073709551616 : Nat) : Int) 16) = ((v / 1208925819614629174706176 % 256 : Nat) : Int) from (byteW _ 16 (by decide)).trans (congrArg Int.ofNat (show (v / 18446744073709551616 % 18446744073709551616) / 65536 % 256 = v / 1208925819614629174706176 % 256 by omega)),
    show IntKind.u8.wrap (shrI .u64 ((v / 18446744073709551616 % 18446744073709551616 : Nat) : Int) 24) = ((v / 309485009821345068724781056 % 256 : Nat) : Int) from (byteW _ 24 (by decide)).trans (congrArg Int.ofNat (show (v / 18446744073709551616 % 18446744073709551616) / 16777216 % 256 = v / 309485009821345068724781056 % 256 by omega)),
    show IntKind.u8.wrap (shrI .u64 ((v / 18446744073709551616 % 18446744073709551616 : Nat) : Int) 32) = ((v / 79228162514264337593543950336 % 256 : Nat) : Int) from (byteW _ 32 (by decide)).trans (congrArg Int.ofNat (show (v / 18446744073709551616 % 18446744073709551616) / 4294967296 % 256 = v / 79228162514264337593543950336 % 256 by omega)),
    show IntKind.u8.wrap (shrI .u64 ((v / 18446744073709551616 % 18446744073709551616 : Nat) : Int) 40) = ((v / 20282409603651670423947251286016 % 256 : Nat) : Int) from (byteW _ 40 (by decide)).trans (congrArg Int.ofNat (show (v / 18446744073709551616 % 18446744073709551616) / 1099511627776 % 256 = v / 20282409603651670423947251286016 % 256 by omega)),
    show IntKind.u8.wrap (shrI .u64 ((v / 18446744073709551616 % 18446744073709551616 : Nat) : Int) 48) = ((v / 5192296858534827628530496329220096 % 256 : Nat) : Int) from (byteW _ 48 (by decide)).trans (congrArg Int.ofNat (show (v / 18446744073709551616 % 18446744073709551616) / 281474976710656 % 256 = v / 5192296858534827628530496329220096 % 256 by omega)),
    show IntKind.u8.wrap (shrI .u64 ((v / 18446744073709551616 % 18446744073709551616 : Nat) : Int) 56) = ((v / 1329227995784915872903807060280344576 % 256 : Nat) : Int) from (byteW _ 56 (by decide)).trans (congrArg Int.ofNat (show (v / 18446744073709551616 % 18446744073709551616) / 72057594037927936 % 256 = v / 1329227995784915872903807060280344576 % 256 by omega)),
    show IntKind.u8.wrap (shrI .u64 ((v / 340282366920938463463374607431768211456 % 18446744073709551616 : Nat) : Int) 0) = ((v / 340282366920938463463374607431768211456 % 256 : Nat) : Int) from (byteW _ 0 (by decide)).trans (congrArg Int.ofNat (show (v / 340282366920938463463374607431768211456 % 18446744073709551616) / 1 % 256 = v / 340282366920938463463374607431768211456 % 256 by omega)),
    show IntKind.u8.wrap (shrI .u64 ((v / 340282366920938463463374607431768211456 % 18446744073709551616 : Nat) : Int) 8) = ((v / 87112285931760246646623899502532662132736 % 256 : Nat) : Int) from (byteW _ 8 (by decide)).trans (congrArg Int.ofNat (show (v / 340282366920938463463374607431768211456 % 18446744073709551616) / 256 % 256 = v / 87112285931760246646623899502532662132736 % 256 by omega)),
    show IntKind.u8.wrap (shrI .u64 ((v / 340282366920938463463374607431768211456 % 18446744073709551616 : Nat) : Int) 16) = ((v / 22300745198530623141535718272648361505980416 % 256 : Nat) : Int) from (byteW _ 16 (by decide)).trans (congrArg Int.ofNat (show (v / 340282366920938463463374607431768211456 % 18446744073709551616) / 65536 % 256 = v / 22300745198530623141535718272648361505980416 % 256 by omega)),
    show IntKind.u8.wrap (shrI .u64 ((v / 340282366920938463463374607431768211456 % 18446744073709551616 : Nat) : Int) 24) = ((v / 5708990770823839524233143877797980545530986496 % 256 : Nat) : Int) from (byteW _ 24 (by decide)).trans (congrArg Int.ofNat (show (v / 340282366920938463463374607431768211456 % 18446744073709551616) / 16777216 % 256 = v / 5708990770823839524233143877797980545530986496 % 256 by omega)),
    show IntKind.u8.wrap (shrI .u64 ((v / 340282366920938463463374607431768211456 % 18446744073709551616 : Nat) : Int) 32) = ((v / 1461501637330902918203684832716283019655932542976 % 256 : Nat) : Int) from (byteW _ 32 (by decide)).trans (congrArg Int.ofNat (show (v / 340282366920938463463374607431768211456 % 18446744073709551616) / 4294967296 % 256 = v / 1461501637330902918203684832716283019655932542976 % 256 by omega)),
    show IntKind.u8.wrap (shrI .u64 ((v / 340282366920938463463374607431768211456 % 18446744073709551616 : Nat) : Int) 40) = ((v / 374144419156711147060143317175368453031918731001856 % 256 : Nat) : Int) from (byteW _ 40 (by decide)).trans (congrArg Int.ofNat (show (v / 340282366920938463463374607431768211456 % 18446744073709551616) / 1099511627776 % 256 = v / 374144419156711147060143317175368453031918731001856 % 256 by omega)),
    show IntKind.u8.wrap (shrI .u64 ((v / 340282366920938463463374607431768211456 % 18446744073709551616 : Nat) : Int) 48) = ((v / 95780971304118053647396689196894323976171195136475136 % 256 : Nat) : Int) from (byteW _ 48 (by decide)).trans (congrArg Int.ofNat (show (v / 340282366920938463463374607431768211456 % 18446744073709551616) / 281474976710656 % 256 = v / 95780971304118053647396689196894323976171195136475136 % 256 by omega)),
    show IntKind.u8.wrap (shrI .u64 ((v / 340282366920938463463374607431768211456 % 18446744073709551616 : Nat) : Int) 56) = ((v / 24519928653854221733733552434404946937899825954937634816 % 256 : Nat) : Int) from (byteW _ 56 (by decide)).trans (congrArg Int.ofNat (show (v / 340282366920938463463374607431768211456 % 18446744073709551616) / 72057594037927936 % 256 = v / 24519928653854221733733552434404946937899825954937634816 % 256 by omega)),
    show IntKind.u8.wrap (shrI .u64 ((v / 6277101735386680763835789423207666416102355444464034512896 : Nat) : Int) 0) = ((v / 6277101735386680763835789423207666416102355444464034512896 % 256 : Nat) : Int) from (byteW _ 0 (by decide)).trans (congrArg Int.ofNat (show (v / 6277101735386680763835789423207666416102355444464034512896) / 1 % 256 = v / 6277101735386680763835789423207666416102355444464034512896 % 256 by omega)),
    show IntKind.u8.wrap (shrI .u64 ((v / 6277101735386680763835789423207666416102355444464034512896 : Nat) : Int) 8) = ((v / 1606938044258990275541962092341162602522202993782792835301376 % 256 : Nat) : Int) from (byteW _ 8 (by decide)).trans (congrArg Int.ofNat (show (v / 6277101735386680763835789423207666416102355444464034512896) / 256 % 256 = v / 1606938044258990275541962092341162602522202993782792835301376 % 256 by omega)),
    show IntKind.u8.wrap (shrI .u64 ((v / 6277101735386680763835789423207666416102355444464034512896 : Nat) : Int) 16) = ((v / 411376139330301510538742295639337626245683966408394965837152256 % 256 : Nat) : Int) from (byteW _ 16 (by decide)).trans (congrArg Int.ofNat (show (v / 6277101735386680763835789423207666416102355444464034512896) / 65536 % 256 = v / 411376139330301510538742295639337626245683966408394965837152256 % 256 by omega)),
    show IntKind.u8.wrap (shrI .u64 ((v / 6277101735386680763835789423207666416102355444464034512896 : Nat) : Int) 24) = ((v / 105312291668557186697918027683670432318895095400549111254310977536 % 256 : Nat) : Int) from (byteW _ 24 (by decide)).trans (congrArg Int.ofNat (show (v / 6277101735386680763835789423207666416102355444464034512896) / 16777216 % 256 = v / 105312291668557186697918027683670432318895095400549111254310977536 % 256 by omega)),
    show IntKind.u8.wrap (shrI .u64 ((v / 6277101735386680763835789423207666416102355444464034512896 : Nat) : Int) 32) = ((v / 26959946667150639794667015087019630673637144422540572481103610249216 % 256 : Nat) : Int) from (byteW _ 32 (by decide)).trans (congrArg Int.ofNat (show (v / 6277101735386680763835789423207666416102355444464034512896) / 4294967296 % 256 = v / 26959946667150639794667015087019630673637144422540572481103610249216 % 256 by omega)),
    show IntKind.u8.wrap (shrI .u64 ((v / 6277101735386680763835789423207666416102355444464034512896 : Nat) : Int) 40) = ((v / 6901746346790563787434755862277025452451108972170386555162524223799296 % 256 : Nat) : Int) from (byteW _ 40 (by decide)).trans (congrArg Int.ofNat (show (v / 6277101735386680763835789423207666416102355444464034512896) / 1099511627776 % 256 = v / 6901746346790563787434755862277025452451108972170386555162524223799296 % 256 by omega)),
    show IntKind.u8.wrap (shrI .u64 ((v / 6277101735386680763835789423207666416102355444464034512896 : Nat) : Int) 48) = ((v / 1766847064778384329583297500742918515827483896875618958121606201292619776 % 256 : Nat) : Int) from (byteW _ 48 (by decide)).trans (congrArg Int.ofNat (show (v / 6277101735386680763835789423207666416102355444464034512896) / 281474976710656 % 256 = v / 1766847064778384329583297500742918515827483896875618958121606201292619776 % 256 by omega)),
    show IntKind.u8.wrap (shrI .u64 ((v / 6277101735386680763835789423207666416102355444464034512896 : Nat) : Int) 56) = ((v / 452312848583266388373324160190187140051835877600158453279131187530910662656 % 256 : Nat) : Int) from (byteW _ 56 (by decide)).trans (congrArg Int.ofNat (show (v / 6277101735386680763835789423207666416102355444464034512896) / 72057594037927936 % 256 = v / 452312848583266388373324160190187140051835877600158453279131187530910662656 % 256 by omega))]
  rfl


end Go.Proofs.YtogcijgklnfjjaaGreat

namespace Go.Proofs.YtogcijgklnfjjaaGreat
open Go Go.Eng
set_option maxRecDepth 100000

theorem ell_pos : 0 < ell := by rw [ell_def]; decide
def okN (x : List Int) : Bool := okW x && decide (nW x < ell)
theorem okN_W {x : List Int} (h : okN x = true) : okW x = true := (Bool.and_eq_true _ _ ▸ h).1
theorem okN_lt {x : List Int} (h : okN x = true) : nW x < ell := of_decide_eq_true (Bool.and_eq_true _ _ ▸ h).2
theorem okN_wN {v : Nat} (h : v < ell) : okN (wN v) = true := by
  unfold okN
  rw [okW_wN, nW_wN (Nat.lt_trans h ell_lt), decide_eq_true h]; rfl
theorem lt_W4 {v : Nat} (h : v < ell) : v < WW ^ 4 := Nat.lt_trans h ell_lt

noncomputable def addD : List Int → List Int → Int → List Int
  | x :: xs, y :: ys, c => addLo x y c :: addD xs ys (addHi x y c)
  | _, _, _ => []
def g01 (x y c : Int) : Bool := decide (addHi x y c = 0) || decide (addHi x y c = 1)
theorem f115_form {R : Type} (x0 x1 x2 x3 y0 y1 y2 y3 : Int) (k : List DV → Option R) : f115_raw 0 [x0, x1, x2, x3] [y0, y1, y2, y3] k =
    bif g01 x0 y0 0 then bif g01 x1 y1 (addHi x0 y0 0) then bif g01 x2 y2 (addHi x1 y1 (addHi x0 y0 0)) then k [.v (.one (.ints .u64 4 (lowL (addD [x0, x1, x2, x3] [y0, y1, y2, y3] 0))))] else none else none else none := by kernel_rfl

theorem add_nat {x y c : Nat} (hx : x < 18446744073709551616) (hy : y < 18446744073709551616) (hc : c ≤ 1) :
    ∃ d b : Nat, addLo (x : Int) (y : Int) (c : Int) = (d : Int) ∧ addHi (x : Int) (y : Int) (c : Int) = (b : Int) ∧ d < 18446744073709551616 ∧ b ≤ 1 ∧ d + 18446744073709551616 * b = x + y + c ∧ g01 (x : Int) (y : Int) (c : Int) = true := by
  refine ⟨(x + y + c) % 18446744073709551616, (x + y + c) / 18446744073709551616, addLo_nat _ _ _, addHi_nat _ _ _, Nat.mod_lt _ (by decide), by omega, by omega, ?_⟩
  unfold g01
  rw [addHi_nat]
  rcases (show (x + y + c) / 18446744073709551616 = 0 ∨ (x + y + c) / 18446744073709551616 = 1 by omega) with e | e <;> rw [e] <;> rfl

theorem len4 {l : List Nat} (h : l.length = 4) : ∃ a b c d, l = [a, b, c, d] := by
  match l, h with
  | [a, b, c, d], _ => exact ⟨a, b, c, d, rfl⟩
theorem lw_add {A B : Nat} (ha : A < ell) (hb : B < ell) : lw (A + B) = (A + B) % ell := by
  unfold lw
  split
  · rename_i hl; rw [Nat.mod_eq_of_lt hl]
  · rename_i hl; rw [Nat.mod_eq_sub_mod (by omega), Nat.mod_eq_of_lt (by omega)]
theorem two_ell : ell + ell ≤ WW ^ 4 := by rw [ell_def, W4]; decide
theorem plus_nat {R : Type} {x0 x1 x2 x3 y0 y1 y2 y3 : Nat} (a0 : x0 < WW) (a1 : x1 < WW) (a2 : x2 < WW) (a3 : x3 < WW) (b0 : y0 < WW) (b1 : y1 < WW) (b2 : y2 < WW) (b3 : y3 < WW)
    (lx : valB WW [x0, x1, x2, x3] < ell) (ly : valB WW [y0, y1, y2, y3] < ell) (k : List DV → Option R) :
    f115_raw 0 (nats [x0, x1, x2, x3]) (nats [y0, y1, y2, y3]) k = k [.v (.one (.ints .u64 4 (wN ((valB WW [x0, x1, x2, x3] + valB WW [y0, y1, y2, y3]) % ell))))] := by
  obtain ⟨d0, c0, e0, f0, i0, j0, k0, g0⟩ := add_nat (c := 0) a0 b0 (by decide)
  obtain ⟨d1, c1, e1, f1, i1, j1, k1, g1⟩ := add_nat a1 b1 j0
  obtain ⟨d2, c2, e2, f2, i2, j2, k2, g2⟩ := add_nat a2 b2 j1
  obtain ⟨d3, c3, e3, f3, i3, j3, k3, g3⟩ := add_nat a3 b3 j2
  refine (f115_form (x0 : Int) (x1 : Int) (x2 : Int) (x3 : Int) (y0 : Int) (y1 : Int) (y2 : Int) (y3 : Int) k).trans ?_
  have ed : addD [(x0 : Int), (x1 : Int), (x2 : Int), (x3 : Int)] [(y0 : Int), (y1 : Int), (y2 : Int), (y3 : Int)] ((0 : Nat) : Int) = nats [d0, d1, d2, d3] := by
    simp only [addD]
    rw [e0, f0, e1, f1, e2, f2, e3]; rfl
  rw [show (0 : Int) = ((0 : Nat) : Int) from rfl, g0, f0, g1, f1, g2, cond_true, cond_true, cond_true, ed]
  have hs : valB WW [d0, d1, d2, d3] = valB WW [x0, x1, x2, x3] + valB WW [y0, y1, y2, y3] := by
    rw [ell_def] at lx ly
    simp only [valB, WW] at lx ly ⊢
    omega
  have ew : nats [d0, d1, d2, d3] = wN (valB WW [x0, x1, x2, x3] + valB WW [y0, y1, y2, y3]) := wN_of rfl rfl (by
    simp only [List.mem_cons, List.not_mem_nil, or_false, forall_eq_or_imp, forall_eq]
    exact ⟨i0, i1, i2, i3⟩) hs
  rw [ew]
  have h2 := two_ell
  rw [low_wN (by omega), lw_add lx ly]
theorem plus_num {R : Type} {x y : List Int} (hx : okN x = true) (hy : okN y = true) (k : List DV → Option R) :
    f115_raw 0 x y k = k [.v (.one (.ints .u64 4 (wN ((nW x + nW y) % ell))))] := by
  have lx := okN_lt hx
  have ly := okN_lt hy
  obtain ⟨l, rfl, h1, h2⟩ := okW_of (okN_W hx)
  obtain ⟨m, rfl, h3, h4⟩ := okW_of (okN_W hy)
  rw [nW_nats] at lx ly
  rw [nW_nats, nW_nats]
  obtain ⟨x0, x1, x2, x3, rfl⟩ := len4 h1
  obtain ⟨y0, y1, y2, y3, rfl⟩ := len4 h3
  simp only [List.mem_cons, List.not_mem_nil, or_false, forall_eq_or_imp, forall_eq] at h2 h4
  obtain ⟨a0, a1, a2, a3⟩ := h2
  obtain ⟨b0, b1, b2, b3⟩ := h4
  exact plus_nat a0 a1 a2 a3 b0 b1 b2 b3 lx ly k

noncomputable def addN : Nat → Nat → Nat := (stk fun a b : Nat => (a + b) % ell).1
theorem addN_def (a b : Nat) : addN a b = (a + b) % ell := congrFun (congrFun (stk fun a b : Nat => (a + b) % ell).2 a) b
theorem addN_lt (a b : Nat) : addN a b < ell := by rw [addN_def]; exact Nat.mod_lt _ ell_pos
noncomputable def I115 : (R : Type) → List DV → (List DV → Option R) → Option R := fun _ ds k => match ds with
  | [.v (.one (.ints .u64 4 x)), .v (.one (.ints .u64 4 y))] => bif okN x && okN y then k [.v (.one (.ints .u64 4 (wN (addN (nW x) (nW y)))))] else none
  | _ => none
theorem c115 : Contract Tryz.prog 115 { sig := S115, impl := I115 } := by
  refine Contract.refine fun R ds k r h => ⟨_, f115_contract 0 G54_ok, ?_⟩
  unfold I115 at h
  split at h
  · rename_i x y
    cases hc : okN x && okN y with
    | false => rw [hc] at h; cases h
    | true =>
      rw [hc] at h
      obtain ⟨h1, h2⟩ := Bool.and_eq_true _ _ ▸ hc
      rw [f115_raw_eq, plus_num h1 h2, ← addN_def]; exact h
  · cases h

noncomputable def negN : Nat → Nat := (stk fun a : Nat => (ell - a) % ell).1
theorem negN_def (a : Nat) : negN a = (ell - a) % ell := congrFun (stk fun a : Nat => (ell - a) % ell).2 a
theorem negN_lt (a : Nat) : negN a < ell := by rw [negN_def]; exact Nat.mod_lt _ ell_pos
theorem wN_zero : List.replicate 4 (0 : Int) = wN 0 := by rw [wN_def]; decide
theorem minus_num {R : Type} {x : List Int} (hx : okN x = true) (k : List DV → Option R) : f134_raw 0 x k = k [.v (.one (.ints .u64 4 (wN (negN (nW x)))))] := by
  unfold f134_raw
  have hl := okN_lt hx
  have ex := wN_nW (okN_W hx)
  rw [negN_def]
  by_cases h0 : nW x = 0
  · have : x = List.replicate 4 0 := by rw [wN_zero, ← h0]; exact ex.symm
    rw [decide_eq_true this, cond_true, h0, Nat.sub_zero, Nat.mod_self, ← wN_zero, ← this]
  · have : ¬ x = List.replicate 4 0 := by
      intro e; rw [wN_zero] at e
      apply h0; rw [e, nW_wN (by decide)]
    rw [decide_eq_false this, cond_false, (less_num ordW_ok (okN_W hx)).1, ordW_num]
    have e1 := ell_lt
    rw [show ell + WW ^ 4 - nW x = (ell - nW x) + WW ^ 4 by omega, Nat.add_mod_right, Nat.mod_eq_of_lt (show ell - nW x < WW ^ 4 by omega), Nat.mod_eq_of_lt (show ell - nW x < ell by omega)]
noncomputable def I134 : (R : Type) → List DV → (List DV → Option R) → Option R := fun _ ds k => match ds with
  | [.v (.one (.ints .u64 4 x))] => bif okN x then k [.v (.one (.ints .u64 4 (wN (negN (nW x)))))] else none
  | _ => none
theorem c134 : Contract Tryz.prog 134 { sig := S134, impl := I134 } := by
  refine Contract.refine fun R ds k r h => ⟨_, f134_contract 0 G79_ok, ?_⟩
  unfold I134 at h
  split at h
  · rename_i x
    cases hc : okN x with
    | false => rw [hc] at h; cases h
    | true =>
      rw [hc] at h
      rw [f134_raw_eq, minus_num hc]; exact h
  · cases h

noncomputable def vS : List Int → Nat := (stk fun x => numB x % ell).1
theorem vS_def (x : List Int) : vS x = numB x % ell := congrFun (stk fun x => numB x % ell).2 x
theorem vS_lt (x : List Int) : vS x < ell := by rw [vS_def]; exact Nat.mod_lt _ ell_pos
theorem low_k {v : Nat} (hv : v < WW ^ 4) : ∀ k : Nat, lowL (wN (lwN k v)) = wN (lwN (k + 1) v) := by
  intro k
  have : ∀ k, lwN k v < WW ^ 4 := by
    intro k
    induction k with
    | zero => exact hv
    | succ k ih => exact Nat.lt_of_le_of_lt (lw_lt _) ih
  exact low_wN (this k)
theorem value_num {R : Type} {x : List Int} (hx : okB x = true) (k : List DV → Option R) : f116_raw 0 x k = k [.v (.one (.ints .u64 4 (wN (vS x))))] := by
  unfold f116_raw
  have hv := numB_lt hx
  rw [from_num hx, vS_def, ← lwN_16 hv]
  rw [show wN (numB x) = wN (lwN 0 (numB x)) from rfl]
  iterate 16 rw [low_k hv]
noncomputable def I116 : (R : Type) → List DV → (List DV → Option R) → Option R := fun _ ds k => match ds with
  | [.v (.one (.ints .u8 32 x))] => bif okB x then k [.v (.one (.ints .u64 4 (wN (vS x))))] else none
  | _ => none
theorem c116 : Contract Tryz.prog 116 { sig := S116, impl := I116 } := by
  refine Contract.refine fun R ds k r h => ⟨_, f116_contract 0 G55_ok, ?_⟩
  unfold I116 at h
  split at h
  · rename_i x
    cases hc : okB x with
    | false => rw [hc] at h; cases h
    | true =>
      rw [hc] at h
      rw [f116_raw_eq, value_num hc]; exact h
  · cases h
end Go.Proofs.YtogcijgklnfjjaaGreat

namespace Go.Proofs.YtogcijgklnfjjaaGreat
open Go Go.Eng
set_option maxRecDepth 100000

noncomputable def mrow (a : Int) : List Int → List Int → Int → List Int × Int
  | b :: bs, t :: ts, c => (maLo a b t c :: (mrow a bs ts (maHi a b t c)).1, (mrow a bs ts (maHi a b t c)).2)
  | _, _, c => ([], c)
noncomputable def mend (s : List Int × Int) (t4 q : Int) : List Int :=
  [s.1.getD 1 0, s.1.getD 2 0, s.1.getD 3 0, addLo (addLo t4 q 0) s.2 0, IntKind.u64.wrap (addHi t4 q 0 + addHi (addLo t4 q 0) s.2 0)]
noncomputable def mmid (r : List Int × Int) (t4 : Int) : List Int := mend (mrow (IntKind.u64.wrap (r.1.getD 0 0 * 15183074304973897243)) ordW r.1 0) t4 r.2
noncomputable def mstep (a : Int) (b : List Int) : List Int → List Int
  | [t0, t1, t2, t3, t4] => mmid (mrow a b [t0, t1, t2, t3] 0) t4
  | _ => []
noncomputable def montR (x y : List Int) : List Int := ansL (f179_raw 0 x y some) 0
theorem f179_spec {R : Type} (x y : List Int) (k : List DV → Option R) : f179_raw 0 x y k = k [.v (.one (.ints .u64 4 (montR x y)))] := by kernel_rfl
theorem mont_eq (a0 a1 a2 a3 b0 b1 b2 b3 : Int) : montR [a0, a1, a2, a3] [b0, b1, b2, b3] =
    lowL (List.take 4 (mstep a3 [b0, b1, b2, b3] (mstep a2 [b0, b1, b2, b3] (mstep a1 [b0, b1, b2, b3] (mstep a0 [b0, b1, b2, b3] [0, 0, 0, 0, 0]))))) := by kernel_rfl

theorem mrow_nat {a : Nat} (ha : a < WW) : ∀ (b t : List Nat) (c : Nat), b.length = t.length → (∀ x ∈ b, x < WW) → (∀ x ∈ t, x < WW) → c < WW →
    ∃ (r : List Nat) (q : Nat), mrow (a : Int) (nats b) (nats t) (c : Int) = (nats r, (q : Int)) ∧ r.length = b.length ∧ (∀ x ∈ r, x < WW) ∧ q < WW ∧ valB WW r + WW ^ b.length * q = a * valB WW b + valB WW t + c
  | [], [], c, _, _, _, hc => ⟨[], c, rfl, rfl, by simp, hc, by simp [valB]⟩
  | x :: b, y :: t, c, hl, h1, h2, hc => by
    have hx : x < WW := h1 x (by simp)
    have hy : y < WW := h2 y (by simp)
    obtain ⟨e1, e2⟩ := ma_nat ha hx hy hc
    have hp : a * x ≤ 18446744073709551615 * 18446744073709551615 := by unfold WW at *; exact Nat.mul_le_mul (by omega) (by omega)
    have hq : (a * x + y + c) / 18446744073709551616 < WW := by unfold WW at *; omega
    obtain ⟨r, q, g1, g2, g3, g4, g5⟩ := mrow_nat ha b t ((a * x + y + c) / 18446744073709551616) (by simpa using hl) (fun z hz => h1 z (by simp [hz])) (fun z hz => h2 z (by simp [hz])) hq
    refine ⟨(a * x + y + c) % 18446744073709551616 :: r, q, ?_, by simp [g2], ?_, g4, ?_⟩
    · show (maLo (a : Int) (x : Int) (y : Int) (c : Int) :: (mrow (a : Int) (nats b) (nats t) (maHi (a : Int) (x : Int) (y : Int) (c : Int))).1, (mrow (a : Int) (nats b) (nats t) (maHi (a : Int) (x : Int) (y : Int) (c : Int))).2) = _
      rw [e1, e2, g1]; rfl
    · intro z hz
      rcases List.mem_cons.mp hz with rfl | hz
      · exact Nat.mod_lt _ (by decide)
      · exact g3 z hz
    · simp only [valB, List.length_cons, Nat.pow_succ]
      rw [Nat.mul_comm (WW ^ b.length) WW, Nat.mul_assoc, Nat.mul_add, show a * (WW * valB WW b) = WW * (a * valB WW b) by rw [← Nat.mul_assoc, Nat.mul_comm a WW, Nat.mul_assoc]]
      generalize WW ^ b.length * q = P at *
      generalize a * valB WW b = Q at *
      generalize a * x = S at *
      unfold WW at *
      omega
  | [], _ :: _, _, h, _, _, _ => by simp at h
  | _ :: _, [], _, h, _, _, _ => by simp at h

theorem mstep_nat {a : Nat} (ha : a < WW) {b : List Nat} (hb : b.length = 4) (hB : ∀ x ∈ b, x < WW) {t : List Nat} (ht : t.length = 5) (hT : ∀ x ∈ t, x < WW) :
    ∃ (u : List Nat) (m : Nat), mstep (a : Int) (nats b) (nats t) = nats u ∧ u.length = 5 ∧ (∀ x ∈ u, x < WW) ∧ m < WW ∧ WW * valB WW u = valB WW t + a * valB WW b + m * ell := by
  match t, ht with
  | [t0, t1, t2, t3, t4], _ =>
    simp only [List.mem_cons, List.not_mem_nil, or_false, forall_eq_or_imp, forall_eq] at hT
    obtain ⟨h0, h1, h2, h3, h4⟩ := hT
    obtain ⟨r, q, e1, r1, r2, r3, r4⟩ := mrow_nat ha b [t0, t1, t2, t3] 0 (by rw [hb]; rfl) hB (by
      simp only [List.mem_cons, List.not_mem_nil, or_false, forall_eq_or_imp, forall_eq]
      exact ⟨h0, h1, h2, h3⟩) (by decide)
    rw [hb] at r1 r4
    obtain ⟨r0, ra, rb, rc, rfl⟩ := len4 r1
    have hm : (r0 * 15183074304973897243) % 18446744073709551616 < WW := Nat.mod_lt _ (by decide)
    obtain ⟨s, q2, e2, s1, s2, s3, s4⟩ := mrow_nat hm [6346243789798364141, 1503914060200516822, 0, 1152921504606846976] [r0, ra, rb, rc] 0 rfl (by decide) r2 (by decide)
    obtain ⟨u0, u1, u2, u3, rfl⟩ := len4 s1
    have em : IntKind.u64.wrap ((r0 : Int) * 15183074304973897243) = (((r0 * 15183074304973897243) % 18446744073709551616 : Nat) : Int) := wm64 (r0 * 15183074304973897243)
    have hord : valB WW [6346243789798364141, 1503914060200516822, 0, 1152921504606846976] = ell := by rw [ell_def]; decide
    rw [hord] at s4
    have hov : (t4 + q + 0) / 18446744073709551616 + ((t4 + q + 0) % 18446744073709551616 + q2 + 0) / 18446744073709551616 < 18446744073709551616 := by unfold WW at *; omega
    refine ⟨[u1, u2, u3, ((t4 + q + 0) % 18446744073709551616 + q2 + 0) % 18446744073709551616, (t4 + q + 0) / 18446744073709551616 + ((t4 + q + 0) % 18446744073709551616 + q2 + 0) / 18446744073709551616], (r0 * 15183074304973897243) % 18446744073709551616, ?_, rfl, ?_, hm, ?_⟩
    · have e1' : mrow (a : Int) (nats b) [(t0 : Int), (t1 : Int), (t2 : Int), (t3 : Int)] 0 = (nats [r0, ra, rb, rc], (q : Int)) := e1
      have e2' : mrow (((r0 * 15183074304973897243) % 18446744073709551616 : Nat) : Int) ordW [(r0 : Int), (ra : Int), (rb : Int), (rc : Int)] 0 = (nats [u0, u1, u2, u3], (q2 : Int)) := e2
      show mmid (mrow (a : Int) (nats b) [(t0 : Int), (t1 : Int), (t2 : Int), (t3 : Int)] 0) (t4 : Int) = _
      rw [e1']
      show mend (mrow (IntKind.u64.wrap ((r0 : Int) * 15183074304973897243)) ordW [(r0 : Int), (ra : Int), (rb : Int), (rc : Int)] 0) (t4 : Int) (q : Int) = _
      rw [em, e2']
      show [(u1 : Int), (u2 : Int), (u3 : Int), addLo (addLo (t4 : Int) (q : Int) ((0 : Nat) : Int)) (q2 : Int) ((0 : Nat) : Int), IntKind.u64.wrap (addHi (t4 : Int) (q : Int) ((0 : Nat) : Int) + addHi (addLo (t4 : Int) (q : Int) ((0 : Nat) : Int)) (q2 : Int) ((0 : Nat) : Int))] = _
      rw [addLo_nat, addHi_nat, addLo_nat, addHi_nat, show IntKind.u64.wrap ((((t4 + q + 0) / 18446744073709551616 : Nat) : Int) + ((((t4 + q + 0) % 18446744073709551616 + q2 + 0) / 18446744073709551616 : Nat) : Int)) = (((t4 + q + 0) / 18446744073709551616 + ((t4 + q + 0) % 18446744073709551616 + q2 + 0) / 18446744073709551616 : Nat) : Int) from w64 (n := (t4 + q + 0) / 18446744073709551616 + ((t4 + q + 0) % 18446744073709551616 + q2 + 0) / 18446744073709551616) hov]
      rfl
    · simp only [List.mem_cons, List.not_mem_nil, or_false, forall_eq_or_imp, forall_eq] at s2 ⊢
      obtain ⟨_, b1, b2, b3⟩ := s2
      exact ⟨b1, b2, b3, Nat.mod_lt _ (by decide), hov⟩
    · have hu0 : u0 = 0 := by
        simp only [List.mem_cons, List.not_mem_nil, or_false, forall_eq_or_imp, forall_eq] at s2
        have hu : u0 < 18446744073709551616 := s2.1
        rw [ell_def] at s4
        simp only [valB, WW, List.length_cons, List.length_nil] at s4
        clear e2 em e1 r4 hov
        omega
      subst hu0
      simp only [valB] at r4 s4 ⊢
      generalize (r0 * 15183074304973897243) % 18446744073709551616 * ell = M at *
      generalize a * valB WW b = Q at *
      clear e2 em e1
      simp only [WW, List.length_cons, List.length_nil] at *
      omega
end Go.Proofs.YtogcijgklnfjjaaGreat

namespace Go.Proofs.YtogcijgklnfjjaaGreat
open Go Go.Eng
set_option maxRecDepth 100000

@[irreducible] def rinv : Nat := 4458503529701987551646482192314240623644693141688353256590997718326214331684
theorem rinv_def : rinv = 4458503529701987551646482192314240623644693141688353256590997718326214331684 := by unfold rinv; rfl
theorem rinv_ok : WW ^ 4 * rinv % ell = 1 := by rw [rinv_def, ell_def, W4]

theorem redc {T A B M : Nat} (h : WW ^ 4 * T = A * B + M * ell) (hA : A < WW ^ 4) (hB : B < ell) (hM : M < WW ^ 4) : T < ell + ell ∧ T % ell = A * B * rinv % ell := by
  constructor
  · have h1 : A * B ≤ WW ^ 4 * B := Nat.mul_le_mul_right _ (Nat.le_of_lt hA)
    have h2 : WW ^ 4 * B + M * ell < WW ^ 4 * (ell + ell) := by
      have : M * ell ≤ WW ^ 4 * ell := Nat.mul_le_mul_right _ (Nat.le_of_lt hM)
      have : WW ^ 4 * B < WW ^ 4 * ell := Nat.mul_lt_mul_of_pos_left hB (by rw [W4]; decide)
      rw [Nat.mul_add]; omega
    have : WW ^ 4 * T < WW ^ 4 * (ell + ell) := by omega
    exact Nat.lt_of_mul_lt_mul_left this
  · have e1 : T % ell = T * (WW ^ 4 * rinv) % ell := by rw [Nat.mul_mod, rinv_ok, Nat.mul_one, Nat.mod_mod]
    rw [e1, ← Nat.mul_assoc, Nat.mul_comm T, h, Nat.add_mul, Nat.mul_assoc M, Nat.mul_comm ell, ← Nat.mul_assoc, Nat.add_mul_mod_self_right]

noncomputable def montN : Nat → Nat → Nat := (stk fun a b : Nat => a * b * rinv % ell).1
theorem montN_def (a b : Nat) : montN a b = a * b * rinv % ell := congrFun (congrFun (stk fun a b : Nat => a * b * rinv % ell).2 a) b
theorem montN_lt (a b : Nat) : montN a b < ell := by rw [montN_def]; exact Nat.mod_lt _ ell_pos

theorem mont_val {B : Nat} {m0 m1 m2 m3 a0 a1 a2 a3 T0 T1 T2 T3 : Nat} (s0 : WW * T0 = 0 + a0 * B + m0 * ell) (s1 : WW * T1 = T0 + a1 * B + m1 * ell) (s2 : WW * T2 = T1 + a2 * B + m2 * ell) (s3 : WW * T3 = T2 + a3 * B + m3 * ell) :
    WW ^ 4 * T3 = valB WW [a0, a1, a2, a3] * B + valB WW [m0, m1, m2, m3] * ell := by
  simp only [valB, Nat.add_mul, Nat.mul_add, Nat.mul_zero, Nat.zero_mul, Nat.mul_assoc] at *
  generalize a0 * B = x0 at *
  generalize a1 * B = x1 at *
  generalize a2 * B = x2 at *
  generalize a3 * B = x3 at *
  generalize m0 * ell = y0 at *
  generalize m1 * ell = y1 at *
  generalize m2 * ell = y2 at *
  generalize m3 * ell = y3 at *
  rw [W4]
  unfold WW at *
  omega

theorem mont_nat {a0 a1 a2 a3 : Nat} (ha : ∀ x ∈ [a0, a1, a2, a3], x < WW) {b0 b1 b2 b3 : Nat} (hb : ∀ x ∈ [b0, b1, b2, b3], x < WW) (lb : valB WW [b0, b1, b2, b3] < ell) :
    montR (nats [a0, a1, a2, a3]) (nats [b0, b1, b2, b3]) = wN (montN (valB WW [a0, a1, a2, a3]) (valB WW [b0, b1, b2, b3])) := by
  have hA : valB WW [a0, a1, a2, a3] < WW ^ 4 := valB_lt (b := WW) (by decide) ha
  simp only [List.mem_cons, List.not_mem_nil, or_false, forall_eq_or_imp, forall_eq] at ha
  obtain ⟨h0, h1, h2, h3⟩ := ha
  obtain ⟨t0, m0, e0, l0, w0, k0, s0⟩ := mstep_nat h0 (b := [b0, b1, b2, b3]) rfl hb (t := [0, 0, 0, 0, 0]) rfl (by decide)
  obtain ⟨t1, m1, e1, l1, w1, k1, s1⟩ := mstep_nat h1 (b := [b0, b1, b2, b3]) rfl hb l0 w0
  obtain ⟨t2, m2, e2, l2, w2, k2, s2⟩ := mstep_nat h2 (b := [b0, b1, b2, b3]) rfl hb l1 w1
  obtain ⟨t3, m3, e3, l3, w3, k3, s3⟩ := mstep_nat h3 (b := [b0, b1, b2, b3]) rfl hb l2 w2
  refine (mont_eq (a0 : Int) (a1 : Int) (a2 : Int) (a3 : Int) (b0 : Int) (b1 : Int) (b2 : Int) (b3 : Int)).trans ?_
  have e0' : mstep (a0 : Int) [(b0 : Int), (b1 : Int), (b2 : Int), (b3 : Int)] [0, 0, 0, 0, 0] = nats t0 := e0
  have e1' : mstep (a1 : Int) [(b0 : Int), (b1 : Int), (b2 : Int), (b3 : Int)] (nats t0) = nats t1 := e1
  have e2' : mstep (a2 : Int) [(b0 : Int), (b1 : Int), (b2 : Int), (b3 : Int)] (nats t1) = nats t2 := e2
  have e3' : mstep (a3 : Int) [(b0 : Int), (b1 : Int), (b2 : Int), (b3 : Int)] (nats t2) = nats t3 := e3
  rw [e0', e1', e2', e3']
  have z : valB WW [0, 0, 0, 0, 0] = 0 := by decide
  rw [z] at s0
  have hv := mont_val s0 s1 s2 s3
  have hM : valB WW [m0, m1, m2, m3] < WW ^ 4 := valB_lt (b := WW) (l := [m0, m1, m2, m3]) (by decide) (by
    simp only [List.mem_cons, List.not_mem_nil, or_false, forall_eq_or_imp, forall_eq]; exact ⟨k0, k1, k2, k3⟩)
  obtain ⟨r1, r2⟩ := redc hv hA lb hM
  have h2e := two_ell
  match t3, l3, w3, r1, r2 with
  | [u0, u1, u2, u3, u4], _, w3, r1, r2 =>
    have hs : valB WW [u0, u1, u2, u3, u4] = valB WW [u0, u1, u2, u3] + WW ^ 4 * u4 := valB_append WW [u0, u1, u2, u3] [u4] |>.trans (by simp [valB])
    have hu4 : u4 = 0 := by
      rcases Nat.eq_zero_or_pos u4 with h | h
      · exact h
      · have : WW ^ 4 * 1 ≤ WW ^ 4 * u4 := Nat.mul_le_mul_left _ h
        omega
    subst hu4
    rw [Nat.mul_zero, Nat.add_zero] at hs
    rw [hs] at r1 r2
    simp only [List.mem_cons, List.not_mem_nil, or_false, forall_eq_or_imp, forall_eq] at w3
    have ew : List.take 4 (nats [u0, u1, u2, u3, 0]) = wN (valB WW [u0, u1, u2, u3]) := wN_of (l := [u0, u1, u2, u3]) rfl rfl (by
      simp only [List.mem_cons, List.not_mem_nil, or_false, forall_eq_or_imp, forall_eq]
      exact ⟨w3.1, w3.2.1, w3.2.2.1, w3.2.2.2.1⟩) rfl
    rw [ew, low_wN (by omega), montN_def, ← r2]
    refine congrArg wN ?_
    unfold lw
    split
    · rename_i hl; exact (Nat.mod_eq_of_lt hl).symm
    · rename_i hl; rw [Nat.mod_eq_sub_mod (by omega), Nat.mod_eq_of_lt (by omega)]

theorem mont_num {x y : List Int} (hx : okW x = true) (hy : okN y = true) : montR x y = wN (montN (nW x) (nW y)) := by
  have ly := okN_lt hy
  obtain ⟨l, rfl, h1, h2⟩ := okW_of hx
  obtain ⟨m, rfl, h3, h4⟩ := okW_of (okN_W hy)
  rw [nW_nats] at ly
  rw [nW_nats, nW_nats]
  obtain ⟨x0, x1, x2, x3, rfl⟩ := len4 h1
  obtain ⟨y0, y1, y2, y3, rfl⟩ := len4 h3
  exact mont_nat h2 h4 ly
noncomputable def I179 : (R : Type) → List DV → (List DV → Option R) → Option R := fun _ ds k => match ds with
  | [.v (.one (.ints .u64 4 x)), .v (.one (.ints .u64 4 y))] => bif okW x && okN y then k [.v (.one (.ints .u64 4 (wN (montN (nW x) (nW y)))))] else none
  | _ => none
theorem c179 : Contract Tryz.prog 179 { sig := S179, impl := I179 } := by
  refine Contract.refine fun R ds k r h => ⟨_, f179_contract 0 G82_ok, ?_⟩
  unfold I179 at h
  split at h
  · rename_i x y
    cases hc : okW x && okN y with
    | false => rw [hc] at h; cases h
    | true =>
      rw [hc] at h
      obtain ⟨h1, h2⟩ := Bool.and_eq_true _ _ ▸ hc
      rw [f179_raw_eq, f179_spec, mont_num h1 h2]; exact h
  · cases h
noncomputable def G60 : Ctx := [(179, { sig := S179, impl := I179 }), (180, { sig := S180, impl := I180 })]
theorem G60_ok : CtxOk Tryz.prog G60 := ctxOk_cons ok179 rfl c179 (ctxOk_cons ok180 rfl c180 ctxOk_nil)
end Go.Proofs.YtogcijgklnfjjaaGreat

namespace Go.Proofs.YtogcijgklnfjjaaGreat
open Go Go.Eng
set_option maxRecDepth 100000
set_option linter.unusedVariables false

noncomputable def f129_raw {R : Type} (N : Nat) (x : List Int) (y : List Int) (k : List DV → Option R) : Option R :=
 bif okW x && okN y then bif okW (wN (montN (nW x) (nW y))) && okN radW then k [DV.v (SV.one (At.ints IntKind.u64 4 (wN (montN (nW (wN (montN (nW x) (nW y)))) (nW radW)))))] else Option.none else Option.none


noncomputable def E129 (N : Nat) : Env := { Θ := Th, Γ := G60, K := K129, ν := N129, fuel := 0, lp := [] }


theorem f129_contract (N : Nat) (hΓ : CtxOk Tryz.prog G60) : Contract Tryz.prog 129 { sig := S129, impl := fun _ ds k => call (E129 N) S129 10 B129 R129 ds k } :=
  call_contract (E := E129 N) thOk hΓ mixed ok129.look ok129.body ok129.n ok129.rv ok129.name rfl (by decide) (loopsOk_of (l := []) (by kernel_rfl) trivial)
theorem f129_raw_eq {R : Type} (N : Nat) (x : List Int) (y : List Int) (k : List DV → Option R) : call (E129 N) S129 10 B129 R129 [.v (.one (.ints .u64 4 x)), .v (.one (.ints .u64 4 y))] k = f129_raw N x y k := by kernel_rfl
end Go.Proofs.YtogcijgklnfjjaaGreat

namespace Go.Proofs.YtogcijgklnfjjaaGreat
open Go Go.Eng
set_option maxRecDepth 100000
set_option linter.unusedVariables false

def f133_0_sh : Shp := { n := 36, lo := 2, slots := [(3, .one (.fix (At.ptr 3 0 Off.z 4))), (4, .one (.fix (At.ptr 4 0 Off.z 4))), (5, .one (.fix (At.ptr 5 0 Off.z 4))), (6, .one (.fix (At.ptr 6 0 Off.z 4))), (7, .one (.int IntKind.i64))], items := [(3, .obj [.ints IntKind.u64 4]), (4, .obj [.ints IntKind.u64 4]), (5, .obj [.ints IntKind.u64 4]), (6, .obj [.ints IntKind.u64 4])] }
def f133_0_ex1 : Shp := { n := 36, lo := 2, slots := [(15, .one (.bool)), (3, .one (.fix (At.ptr 3 0 Off.z 4))), (4, .one (.fix (At.ptr 4 0 Off.z 4))), (5, .one (.fix (At.ptr 5 0 Off.z 4))), (6, .one (.fix (At.ptr 6 0 Off.z 4))), (7, .one (.int IntKind.i64))], items := [(3, .obj [.ints IntKind.u64 4]), (4, .obj [.ints IntKind.u64 4]), (5, .obj [.ints IntKind.u64 4]), (6, .obj [.ints IntKind.u64 4])] }
noncomputable def f133_0_st {R : Type} (N : Nat) (self : Int → List Int → List Int → List Int → List Int → Option R) (k1 : Bool → Int → List Int → List Int → List Int → List Int → Option R) (x1 : Int) (x2 : List Int) (x3 : List Int) (x4 : List Int) (x5 : List Int) : Option R :=
 bif Decidable.decide (x1 ≥ 0) then
 bif okW x5 && okN x5 then
 let v0 : Int := IntKind.i64.wrap (x1.tdiv 64);
 bif Decidable.decide (0 ≤ v0) && Decidable.decide (v0 < 4) then
 bif Decidable.decide (0 ≤ x1.tmod 64) then
 let v1 : Int := shrI IntKind.u64 (x2.getD (mulE v0.toNat 1) 0) (x1.tmod 64);
 let v2 : Int := andI IntKind.u64 v1 1;
 bif v2 == 1 then
 bif okW (wN (montN (nW x5) (nW x5))) && okN x4 then
 let v3 : Int := IntKind.i64.wrap (x1 - 1);
 self v3 x2 x3 x4 (wN (montN (nW (wN (montN (nW x5) (nW x5)))) (nW x4)))
 else Option.none
 else
 let v4 : Int := IntKind.i64.wrap (x1 - 1);
 self v4 x2 x3 x4 (wN (montN (nW x5) (nW x5)))
 else Option.none
 else Option.none
 else Option.none
else k1 (Decidable.decide (x1 ≥ 0)) x1 x2 x3 x4 x5
noncomputable def f133_0_lp {R : Type} (N : Nat) (k1 : Bool → Int → List Int → List Int → List Int → List Int → Option R) : Nat → Int → List Int → List Int → List Int → List Int → Option R
 | 0, _, _, _, _, _ => none
 | n + 1, x1, x2, x3, x4, x5 => f133_0_st N (f133_0_lp N k1 n) k1 x1 x2 x3 x4 x5
noncomputable def f133_0_F (N : Nat) : (R : Type) → List Leaf → (X → AS → Option R) → Option R := fun _ ls K => match ls with
 | [.i x1, .l x2, .l x3, .l x4, .l x5] => f133_0_lp N (fun y1 y2 y3 y4 y5 y6 => K (X.normal) (fill f133_0_ex1 [.b y1, .i y2, .l y3, .l y4, .l y5, .l y6])) N x1 x2 x3 x4 x5
 | _ => none
noncomputable def f133_raw {R : Type} (N : Nat) (x : List Int) (y : List Int) (k : List DV → Option R) : Option R :=
 bif okW x && okN radW then
 let v0 : List Int := (List.replicate 4 0).set 0 1;
 f133_0_lp N (fun w1_1 w1_2 w1_3 w1_4 w1_5 w1_6 => bif okW w1_6 && okN v0 then k [DV.v (SV.one (At.ints IntKind.u64 4 (wN (montN (nW w1_6) (nW v0)))))] else Option.none) N 255 y (List.replicate 4 0) (wN (montN (nW x) (nW radW))) (wN (montN (nW v0) (nW radW)))
else Option.none


noncomputable def E133 (N : Nat) : Env := { Θ := Th, Γ := G60, K := K133, ν := N133, fuel := 0, lp := [(0, mkL N133_0 f133_0_sh (f133_0_F N))] }

theorem f133_0_st_eq {R : Type} (N : Nat) (K : X → AS → Option R) (n : Nat) (x1 : Int) (x2 : List Int) (x3 : List Int) (x4 : List Int) (x5 : List Int) : roundsOf (E133 N) N133_0 0 B133_0 K (n + 1) (fill f133_0_sh [.i x1, .l x2, .l x3, .l x4, .l x5]) = f133_0_st N (fun x1 x2 x3 x4 x5 => roundsOf (E133 N) N133_0 0 B133_0 K n (fill f133_0_sh [.i x1, .l x2, .l x3, .l x4, .l x5])) (fun y1 y2 y3 y4 y5 y6 => K (X.normal) (fill f133_0_ex1 [.b y1, .i y2, .l y3, .l y4, .l y5, .l y6])) x1 x2 x3 x4 x5 := by kernel_rfl
theorem f133_0_lp_eq {R : Type} (N : Nat) (K : X → AS → Option R) : ∀ (n : Nat) (x1 : Int) (x2 : List Int) (x3 : List Int) (x4 : List Int) (x5 : List Int), roundsOf (E133 N) N133_0 0 B133_0 K n (fill f133_0_sh [.i x1, .l x2, .l x3, .l x4, .l x5]) = f133_0_lp N (fun y1 y2 y3 y4 y5 y6 => K (X.normal) (fill f133_0_ex1 [.b y1, .i y2, .l y3, .l y4, .l y5, .l y6])) n x1 x2 x3 x4 x5
  | 0, _, _, _, _, _ => rfl
  | n + 1, x1, x2, x3, x4, x5 => by
    rw [f133_0_st_eq, f133_0_lp, show (fun x1 x2 x3 x4 x5 => roundsOf (E133 N) N133_0 0 B133_0 K n (fill f133_0_sh [.i x1, .l x2, .l x3, .l x4, .l x5])) = f133_0_lp N (fun y1 y2 y3 y4 y5 y6 => K (X.normal) (fill f133_0_ex1 [.b y1, .i y2, .l y3, .l y4, .l y5, .l y6])) n from by funext x1 x2 x3 x4 x5; exact f133_0_lp_eq N K n x1 x2 x3 x4 x5]
theorem f133_0_ok (N : Nat) (hlp : LoopsOk Tryz.prog (E133 N).lp B133_0) (hΓ : CtxOk Tryz.prog (E133 N).Γ) : LoopOk Tryz.prog (mkL N133_0 f133_0_sh (f133_0_F N)) 0 B133_0 := by
  refine loopOk_of (E := E133 N) thOk hΓ mixed hlp ?_
  intro R ls K r h
  unfold f133_0_F at h
  split at h
  · exact ⟨N, by rw [f133_0_lp_eq]; exact h⟩
  · cases h

theorem lok133_0 (N : Nat) (hΓ : CtxOk Tryz.prog G60) : LoopOk Tryz.prog (mkL N133_0 f133_0_sh (f133_0_F N)) 0 B133_0 := f133_0_ok N (loopsOk_of (l := []) (by kernel_rfl) trivial) hΓ
theorem f133_contract (N : Nat) (hΓ : CtxOk Tryz.prog G60) : Contract Tryz.prog 133 { sig := S133, impl := fun _ ds k => call (E133 N) S133 36 B133 R133 ds k } :=
  call_contract (E := E133 N) thOk hΓ mixed ok133.look ok133.body ok133.n ok133.rv ok133.name rfl (by decide) (loopsOk_of (l := [(0, B133_0)]) (by kernel_rfl) (allOk_cons (L := mkL N133_0 f133_0_sh (f133_0_F N)) rfl (lok133_0 N hΓ) trivial))
theorem f133_raw_eq {R : Type} (N : Nat) (x : List Int) (y : List Int) (k : List DV → Option R) : call (E133 N) S133 36 B133 R133 [.v (.one (.ints .u64 4 x)), .v (.one (.ints .u64 4 y))] k = f133_raw N x y k := by kernel_rfl
end Go.Proofs.YtogcijgklnfjjaaGreat

namespace Go.Proofs.YtogcijgklnfjjaaGreat
open Go Go.Eng
set_option maxRecDepth 100000
set_option linter.unusedVariables false

noncomputable def f128_raw {R : Type} (N : Nat) (x : Int) (k : List DV → Option R) : Option R :=
 let v0 : List Int := (List.replicate 4 0).set 0 x;
k [DV.v (SV.one (At.ints IntKind.u8 32 (backL v0)))]


noncomputable def E128 (N : Nat) : Env := { Θ := Th, Γ := [(114, { sig := S114, impl := I114 })], K := K128, ν := N128, fuel := 0, lp := [] }


theorem f128_contract (N : Nat) (hΓ : CtxOk Tryz.prog [(114, { sig := S114, impl := I114 })]) : Contract Tryz.prog 128 { sig := S128, impl := fun _ ds k => call (E128 N) S128 6 B128 R128 ds k } :=
  call_contract (E := E128 N) thOk hΓ mixed ok128.look ok128.body ok128.n ok128.rv ok128.name rfl (by decide) (loopsOk_of (l := []) (by kernel_rfl) trivial)
theorem f128_raw_eq {R : Type} (N : Nat) (x : Int) (k : List DV → Option R) : call (E128 N) S128 6 B128 R128 [.v (.one (.int .u64 x))] k = f128_raw N x k := by kernel_rfl
end Go.Proofs.YtogcijgklnfjjaaGreat

namespace Go.Proofs.YtogcijgklnfjjaaGreat
open Go Go.Eng
set_option maxRecDepth 100000

theorem unR (c : Nat) : c * (WW ^ 4 * rinv) % ell = c % ell := by rw [Nat.mul_mod, rinv_ok, Nat.mul_one, Nat.mod_mod]
theorem montN_mod (a b : Nat) : montN (a % ell) (b % ell) = a * b * rinv % ell := by
  rw [montN_def, Nat.mul_mod (a % ell * (b % ell)), ← Nat.mul_mod a b, ← Nat.mul_mod]
noncomputable def mf : Nat → Nat := (stk fun v : Nat => v * WW ^ 4 % ell).1
theorem mf_def (v : Nat) : mf v = v * WW ^ 4 % ell := congrFun (stk fun v : Nat => v * WW ^ 4 % ell).2 v
theorem mf_lt (v : Nat) : mf v < ell := by rw [mf_def]; exact Nat.mod_lt _ ell_pos
theorem W8 : WW ^ 8 = WW ^ 4 * WW ^ 4 := by rw [← Nat.pow_add]
theorem mont_rad (a : Nat) : montN (a % ell) (nW radW) = mf a := by
  rw [radW_num, montN_mod, mf_def, W8, show a * (WW ^ 4 * WW ^ 4) * rinv = a * WW ^ 4 * (WW ^ 4 * rinv) by simp only [Nat.mul_assoc], unR]
theorem mont_mf (u v : Nat) : montN (mf u) (mf v) = mf (u * v) := by
  rw [mf_def, mf_def, montN_mod, mf_def, show u * WW ^ 4 * (v * WW ^ 4) * rinv = u * v * WW ^ 4 * (WW ^ 4 * rinv) by
    simp only [Nat.mul_assoc, Nat.mul_left_comm], unR]
theorem one_lt_ell : 1 < ell := by rw [ell_def]; decide
theorem mont_one (v : Nat) : montN (mf v) 1 = v % ell := by
  rw [mf_def, show (1 : Nat) = 1 % ell from (Nat.mod_eq_of_lt one_lt_ell).symm, montN_mod, Nat.mul_one, Nat.mul_assoc, unR]
theorem mont_mont (a b : Nat) : montN (montN a b) (nW radW) = a * b % ell := by
  rw [montN_def a b, mont_rad, mf_def, Nat.mul_assoc, Nat.mul_comm rinv, unR]

noncomputable def mulN : Nat → Nat → Nat := (stk fun a b : Nat => a * b % ell).1
theorem mulN_def (a b : Nat) : mulN a b = a * b % ell := congrFun (congrFun (stk fun a b : Nat => a * b % ell).2 a) b
theorem mulN_lt (a b : Nat) : mulN a b < ell := by rw [mulN_def]; exact Nat.mod_lt _ ell_pos
theorem okN_rad : okN radW = true := by
  unfold okN
  rw [radW_ok, radW_num, decide_eq_true (Nat.mod_lt _ ell_pos)]; rfl
theorem nW_wl {v : Nat} (h : v < ell) : nW (wN v) = v := nW_wN (lt_W4 h)
noncomputable def I129 : (R : Type) → List DV → (List DV → Option R) → Option R := fun _ ds k => match ds with
  | [.v (.one (.ints .u64 4 x)), .v (.one (.ints .u64 4 y))] => bif okN x && okN y then k [.v (.one (.ints .u64 4 (wN (mulN (nW x) (nW y)))))] else none
  | _ => none
theorem c129 : Contract Tryz.prog 129 { sig := S129, impl := I129 } := by
  refine Contract.refine fun R ds k r h => ⟨_, f129_contract 0 G60_ok, ?_⟩
  unfold I129 at h
  split at h
  · rename_i x y
    cases hc : okN x && okN y with
    | false => rw [hc] at h; cases h
    | true =>
      rw [hc] at h
      obtain ⟨h1, h2⟩ := Bool.and_eq_true _ _ ▸ hc
      rw [f129_raw_eq]
      unfold f129_raw
      rw [okN_W h1, h2, Bool.true_and, cond_true, okW_wN, okN_rad, Bool.true_and, cond_true, nW_wl (montN_lt _ _), mont_mont, ← mulN_def]
      exact h
  · cases h

theorem valB_get (b : Nat) (hb : 0 < b) : ∀ (l : List Nat), (∀ x ∈ l, x < b) → ∀ q : Nat, valB b l / b ^ q % b = l.getD q 0
  | [], _, q => by simp [valB]
  | x :: l, h, 0 => by
    simp only [valB, Nat.pow_zero, Nat.div_one, List.getD_cons_zero]
    rw [Nat.add_mul_mod_self_left, Nat.mod_eq_of_lt (h x (by simp))]
  | x :: l, h, q + 1 => by
    simp only [valB, List.getD_cons_succ]
    rw [Nat.pow_succ, Nat.mul_comm (b ^ q) b, ← Nat.div_div_eq_div_mul, Nat.add_mul_div_left _ _ hb, Nat.div_eq_of_lt (h x (by simp)), Nat.zero_add]
    exact valB_get b hb l (fun y hy => h y (by simp [hy])) q
theorem half_bit (X r : Nat) (hr : r < 64) : X % 18446744073709551616 / 2 ^ r % 2 = X / 2 ^ r % 2 := by
  have := Nat.testBit_mod_two_pow X 64 r
  rw [decide_eq_true hr, Bool.true_and, Nat.testBit_eq_decide_div_mod_eq, Nat.testBit_eq_decide_div_mod_eq, decide_eq_decide] at this
  have e : (2 : Nat) ^ 64 = 18446744073709551616 := by decide
  rw [e] at this
  have a1 := Nat.mod_two_eq_zero_or_one (X % 18446744073709551616 / 2 ^ r)
  have a2 := Nat.mod_two_eq_zero_or_one (X / 2 ^ r)
  omega
theorem bit_at {e : List Nat} (he : ∀ x ∈ e, x < WW) (i : Nat) : andI .u64 (shrI .u64 ((nats e).getD (i / 64) 0) ((i % 64 : Nat) : Int)) 1 = ((valB WW e / 2 ^ i % 2 : Nat) : Int) := by
  rw [nats_getD, shrN (k := .u64) (m := i % 64) (by have := Nat.mod_lt i (show 0 < 64 by decide); exact Nat.le_of_lt this)]
  have hw : e.getD (i / 64) 0 < 18446744073709551616 := by
    rw [← valB_get WW (by decide) e he]; exact Nat.mod_lt _ (by decide)
  have hd : e.getD (i / 64) 0 / 2 ^ (i % 64) < 2 ^ 64 := Nat.lt_of_le_of_lt (Nat.div_le_self _ _) hw
  refine (maskN (k := .u64) (j := 1) rfl hd (by decide)).trans ?_
  refine congrArg Int.ofNat ?_
  rw [Nat.pow_one, ← valB_get WW (by decide) e he, show WW = 18446744073709551616 from rfl, half_bit _ _ (Nat.mod_lt _ (by decide)), Nat.div_div_eq_div_mul]
  congr 2
  rw [show (18446744073709551616 : Nat) = 2 ^ 64 by decide, ← Nat.pow_mul, ← Nat.pow_add]
  congr 1
  omega

theorem pow_step (a v E j : Nat) : (v * v * (if E / 2 ^ j % 2 = 1 then a else 1)) ^ 2 ^ j * a ^ (E % 2 ^ j) = v ^ 2 ^ (j + 1) * a ^ (E % 2 ^ (j + 1)) := by
  have e := Nat.mod_mul (x := E) (a := 2 ^ j) (b := 2)
  rw [show (2 : Nat) ^ (j + 1) = 2 ^ j * 2 from Nat.pow_succ 2 j, e, show v ^ (2 ^ j * 2) = (v * v) ^ 2 ^ j by rw [Nat.mul_comm (2 ^ j) 2, Nat.pow_mul, Nat.pow_two]]
  rcases Nat.mod_two_eq_zero_or_one (E / 2 ^ j) with h | h
  · rw [h, if_neg (by decide), Nat.mul_one, Nat.mul_zero, Nat.add_zero]
  · rw [h, if_pos rfl, Nat.mul_one, Nat.mul_pow, Nat.pow_add, Nat.mul_assoc, Nat.mul_comm (a ^ 2 ^ j)]

theorem wrapI {a : Int} (h1 : -9223372036854775808 ≤ a) (h2 : a < 9223372036854775808) : IntKind.i64.wrap a = a := by
  simp [IntKind.wrap, IntKind.bits, IntKind.signed]; omega

theorem f133_loop {R : Type} (N : Nat) (k1 : Bool → Int → List Int → List Int → List Int → List Int → Option R) {e : List Nat} (hl : e.length = 4) (he : ∀ x ∈ e, x < WW) (a : Nat) (z : List Int) :
    ∀ (j : Nat), j ≤ 256 → ∀ (fuel v : Nat), j < fuel → f133_0_lp N k1 fuel ((j : Int) - 1) (nats e) z (wN (mf a)) (wN (mf v)) = k1 false (-1) (nats e) z (wN (mf a)) (wN (mf (v ^ 2 ^ j * a ^ (valB WW e % 2 ^ j)))) := by
  intro j
  induction j with
  | zero =>
    intro _ fuel v hf
    obtain ⟨fuel, rfl⟩ : ∃ n, fuel = n + 1 := ⟨fuel - 1, by omega⟩
    show f133_0_st N (f133_0_lp N k1 fuel) k1 (-1) (nats e) z (wN (mf a)) (wN (mf v)) = _
    unfold f133_0_st
    rw [decide_eq_false (show ¬ ((-1 : Int) ≥ 0) by decide), cond_false, Nat.pow_zero, Nat.pow_one, Nat.mod_one, Nat.pow_zero, Nat.mul_one]
  | succ j ih =>
    intro hj fuel v hf
    obtain ⟨fuel, rfl⟩ : ∃ n, fuel = n + 1 := ⟨fuel - 1, by omega⟩
    have ei : ((j + 1 : Nat) : Int) - 1 = (j : Int) := by omega
    rw [ei]
    show f133_0_st N (f133_0_lp N k1 fuel) k1 (j : Int) (nats e) z (wN (mf a)) (wN (mf v)) = _
    unfold f133_0_st
    have hq : j / 64 < 4 := by omega
    have hd : IntKind.i64.wrap ((j : Int).tdiv 64) = ((j / 64 : Nat) : Int) := by
      rw [show (j : Int).tdiv 64 = ((j / 64 : Nat) : Int) from rfl]
      exact wi64 (by omega)
    have hm : (j : Int).tmod 64 = ((j % 64 : Nat) : Int) := rfl
    have hmul : mulE ((j / 64 : Nat) : Int).toNat 1 = j / 64 := by
      rfl
    have hs : IntKind.i64.wrap ((j : Int) - 1) = (j : Int) - 1 := wrapI (by omega) (by omega)
    dsimp only
    rw [decide_eq_true (show ((j : Int) ≥ 0) by omega), cond_true, okW_wN, okN_wN (mf_lt v), Bool.and_self, cond_true, hd, hm,
      decide_eq_true (show (0 : Int) ≤ ((j / 64 : Nat) : Int) by omega), decide_eq_true (show ((j / 64 : Nat) : Int) < 4 by omega), Bool.and_self, cond_true,
      decide_eq_true (show (0 : Int) ≤ ((j % 64 : Nat) : Int) by omega), cond_true, hmul, bit_at he j, hs, okW_wN, okN_wN (mf_lt a), Bool.and_self, cond_true,
      nW_wl (mf_lt v), mont_mf, nW_wl (mf_lt _), nW_wl (mf_lt a), mont_mf, ih (by omega) fuel _ (by omega), ih (by omega) fuel _ (by omega)]
    have hp := pow_step a v (valB WW e) j
    rcases Nat.mod_two_eq_zero_or_one (valB WW e / 2 ^ j) with h | h
    · rw [h] at hp ⊢
      rw [if_neg (by decide), Nat.mul_one] at hp
      rw [show (((0 : Nat) : Int) == 1) = false from rfl, cond_false, hp]
    · rw [h] at hp ⊢
      rw [if_pos rfl] at hp
      rw [show (((1 : Nat) : Int) == 1) = true from rfl, cond_true, hp]

noncomputable def powN : Nat → Nat → Nat := (stk fun a e : Nat => a ^ e % ell).1
theorem powN_def (a e : Nat) : powN a e = a ^ e % ell := congrFun (congrFun (stk fun a e : Nat => a ^ e % ell).2 a) e
theorem powN_lt (a b : Nat) : powN a b < ell := by rw [powN_def]; exact Nat.mod_lt _ ell_pos
theorem wN_one : (List.replicate 4 (0 : Int)).set 0 1 = wN 1 := by rw [wN_def]; decide
theorem power_num {R : Type} {x y : List Int} (hx : okN x = true) (hy : okW y = true) (k : List DV → Option R) :
    f133_raw 300 x y k = k [.v (.one (.ints .u64 4 (wN (powN (nW x) (nW y)))))] := by
  have hb := nW_lt hy
  obtain ⟨e, rfl, h1, h2⟩ := okW_of hy
  rw [nW_nats] at hb ⊢
  unfold f133_raw
  dsimp only
  have hx' : nW x = nW x % ell := (Nat.mod_eq_of_lt (okN_lt hx)).symm
  have e1 : montN (nW x) (nW radW) = mf (nW x) := by rw [hx', mont_rad]; rw [← hx']
  have e2 : montN (nW (wN 1)) (nW radW) = mf 1 := by
    rw [nW_wl one_lt_ell]
    have := mont_rad 1
    rwa [Nat.mod_eq_of_lt one_lt_ell] at this
  rw [okN_W hx, okN_rad, Bool.and_self, cond_true, wN_one, e1, e2]
  obtain ⟨n, hn⟩ : ∃ n : Nat, n = 256 := ⟨256, rfl⟩
  rw [show (255 : Int) = (n : Int) - 1 by omega, f133_loop 300 _ h1 h2 (nW x) (List.replicate 4 0) n (by omega) 300 1 (by omega)]
  rw [okW_wN, okN_wN one_lt_ell, Bool.and_self, cond_true, nW_wl (mf_lt _), nW_wl one_lt_ell, mont_one, Nat.one_pow, Nat.one_mul,
    Nat.mod_eq_of_lt (show valB WW e < 2 ^ n by rw [hn, show (2 : Nat) ^ 256 = WW ^ 4 by decide +kernel]; exact hb), ← powN_def]
noncomputable def I133 : (R : Type) → List DV → (List DV → Option R) → Option R := fun _ ds k => match ds with
  | [.v (.one (.ints .u64 4 x)), .v (.one (.ints .u64 4 y))] => bif okN x && okW y then k [.v (.one (.ints .u64 4 (wN (powN (nW x) (nW y)))))] else none
  | _ => none
theorem c133 : Contract Tryz.prog 133 { sig := S133, impl := I133 } := by
  refine Contract.refine fun R ds k r h => ⟨_, f133_contract 300 G60_ok, ?_⟩
  unfold I133 at h
  split at h
  · rename_i x y
    cases hc : okN x && okW y with
    | false => rw [hc] at h; cases h
    | true =>
      rw [hc] at h
      obtain ⟨h1, h2⟩ := Bool.and_eq_true _ _ ▸ hc
      rw [f133_raw_eq, power_num h1 h2]; exact h
  · cases h

def okU (x : Int) : Bool := decide (0 ≤ x) && decide (x < 18446744073709551616)
theorem okU_of {x : Int} (h : okU x = true) : ∃ n : Nat, x = (n : Int) ∧ n < 18446744073709551616 := by
  unfold okU at h
  rw [Bool.and_eq_true] at h
  have h1 := of_decide_eq_true h.1
  have h2 := of_decide_eq_true h.2
  exact ⟨x.toNat, by omega, by omega⟩
noncomputable def I128 : (R : Type) → List DV → (List DV → Option R) → Option R := fun _ ds k => match ds with
  | [.v (.one (.int .u64 x))] => bif okU x then k [.v (.one (.ints .u8 32 (sN x.toNat)))] else none
  | _ => none
theorem c128 : Contract Tryz.prog 128 { sig := S128, impl := I128 } := by
  refine Contract.refine fun R ds k r h => ⟨_, f128_contract 0 (ctxOk_cons ok114 rfl c114 ctxOk_nil), ?_⟩
  unfold I128 at h
  split at h
  · rename_i x
    cases hc : okU x with
    | false => rw [hc] at h; cases h
    | true =>
      rw [hc] at h
      obtain ⟨n, rfl, hn⟩ := okU_of hc
      have e : (List.replicate 4 (0 : Int)).set 0 (n : Int) = wN n := wN_of (l := [n, 0, 0, 0]) rfl rfl (by
        simp only [List.mem_cons, List.not_mem_nil, or_false, forall_eq_or_imp, forall_eq]
        unfold WW; omega) (by simp [valB])
      rw [f128_raw_eq]
      unfold f128_raw
      dsimp only
      rw [e, back_wN (show n < WW ^ 4 by rw [W4]; omega)]
      exact h
  · cases h
end Go.Proofs.YtogcijgklnfjjaaGreat

namespace Go.Proofs.YtogcijgklnfjjaaGreat
open Go Go.Eng
set_option maxRecDepth 100000

noncomputable def I53n : (R : Type) → List DV → (List DV → Option R) → Option R := fun _ ds k => match ds with
  | [.v (.one (.ints .u64 4 x))] => bif okW x then k [.v (.one (.ints .u8 32 (sN (nW x))))] else none
  | _ => none
theorem c53n : Contract Tryz.prog 114 { sig := S114, impl := I53n } := by
  refine Contract.refine fun R ds k r h => ⟨_, c114, ?_⟩
  unfold I53n at h
  unfold I114
  split at h
  · rename_i x
    cases hc : okW x with
    | false => rw [hc] at h; cases h
    | true =>
      rw [hc] at h
      show k [.v (.one (.ints .u8 32 (backL x)))] = some r
      rw [show backL x = sN (nW x) by rw [← back_wN (nW_lt hc), wN_nW hc]]
      exact h
  · cases h
def ordW2 : List Int := [6346243789798364139, 1503914060200516822, 0, 1152921504606846976]
theorem ord2 : lessL ordW [2, 0, 0, 0] = ordW2 := by
  rw [(less_num ordW_ok (by decide)).1, ordW_num, show nW [2, 0, 0, 0] = 2 by decide]
  refine (wN_of (l := [6346243789798364139, 1503914060200516822, 0, 1152921504606846976]) rfl rfl (by decide) ?_).symm
  rw [ell_def, W4]; decide +kernel
noncomputable def I56n : (R : Type) → List DV → (List DV → Option R) → Option R := fun _ ds k => match ds with
  | [.v (.one (.ints .u64 4 x)), .v (.one (.ints .u64 4 y))] => bif decide (x = ordW) && decide (y = [2, 0, 0, 0]) then k [.v (.one (.ints .u64 4 ordW2)), .v (.one (.int .u64 0))] else none
  | _ => none
theorem c56n : Contract Tryz.prog 131 { sig := S131, impl := I56n } := by
  refine Contract.refine fun R ds k r h => ⟨_, c131, ?_⟩
  unfold I56n at h
  unfold I131
  split at h
  · rename_i x y
    cases hc : decide (x = ordW) && decide (y = [2, 0, 0, 0]) with
    | false => rw [hc] at h; cases h
    | true =>
      rw [hc] at h
      obtain ⟨h1, h2⟩ := Bool.and_eq_true _ _ ▸ hc
      have h1 := of_decide_eq_true h1
      have h2 := of_decide_eq_true h2
      subst h1; subst h2
      show k [.v (.one (.ints .u64 4 (lessL ordW [2, 0, 0, 0]))), .v (.one (.int .u64 (under ordW [2, 0, 0, 0])))] = some r
      rw [ord2, (less_num ordW_ok (show okW [2, 0, 0, 0] = true by decide)).2, ordW_num, show nW [2, 0, 0, 0] = 2 by decide, if_neg (by rw [ell_def]; decide)]
      exact h
  · cases h
noncomputable def GS : Ctx := [(114, { sig := S114, impl := I53n }), (115, { sig := S115, impl := I115 }), (116, { sig := S116, impl := I116 }), (131, { sig := S131, impl := I56n }), (132, { sig := S132, impl := I132 }), (133, { sig := S133, impl := I133 }), (134, { sig := S134, impl := I134 }), (129, { sig := S129, impl := I129 })]
theorem GS_ok : CtxOk Tryz.prog GS := ctxOk_cons ok114 rfl c53n (ctxOk_cons ok115 rfl c115 (ctxOk_cons ok116 rfl c116 (ctxOk_cons ok131 rfl c56n (ctxOk_cons ok132 rfl c132 (ctxOk_cons ok133 rfl c133 (ctxOk_cons ok134 rfl c134 (ctxOk_cons ok129 rfl c129 ctxOk_nil)))))))
end Go.Proofs.YtogcijgklnfjjaaGreat

namespace Go.Proofs.YtogcijgklnfjjaaGreat
open Go Go.Eng
set_option maxRecDepth 100000
set_option linter.unusedVariables false

noncomputable def f42_raw {R : Type} (N : Nat) (x : List Int) (y : List Int) (k : List DV → Option R) : Option R :=
 bif okB x then bif okB y then bif okN (wN (vS x)) && okN (wN (vS y)) then bif okW (wN (addN (nW (wN (vS x))) (nW (wN (vS y))))) then k [DV.v (SV.one (At.ints IntKind.u8 32 (sN (nW (wN (addN (nW (wN (vS x))) (nW (wN (vS y)))))))))] else Option.none else Option.none else Option.none else Option.none


noncomputable def E42 (N : Nat) : Env := { Θ := Th, Γ := GS, K := K42, ν := N42, fuel := 0, lp := [] }


theorem f42_contract (N : Nat) (hΓ : CtxOk Tryz.prog GS) : Contract Tryz.prog 42 { sig := S42, impl := fun _ ds k => call (E42 N) S42 11 B42 R42 ds k } :=
  call_contract (E := E42 N) thOk hΓ mixed ok42.look ok42.body ok42.n ok42.rv ok42.name rfl (by decide) (loopsOk_of (l := []) (by kernel_rfl) trivial)
theorem f42_raw_eq {R : Type} (N : Nat) (x : List Int) (y : List Int) (k : List DV → Option R) : call (E42 N) S42 11 B42 R42 [.v (.one (.ints .u8 32 x)), .v (.one (.ints .u8 32 y))] k = f42_raw N x y k := by kernel_rfl
end Go.Proofs.YtogcijgklnfjjaaGreat

namespace Go.Proofs.YtogcijgklnfjjaaGreat
open Go Go.Eng
set_option maxRecDepth 100000
set_option linter.unusedVariables false

noncomputable def f79_raw {R : Type} (N : Nat) (x : List Int) (y : List Int) (k : List DV → Option R) : Option R :=
 bif okB x then bif okB y then bif okN (wN (vS y)) then bif okN (wN (vS x)) && okN (wN (negN (nW (wN (vS y))))) then bif okW (wN (addN (nW (wN (vS x))) (nW (wN (negN (nW (wN (vS y)))))))) then k [DV.v (SV.one (At.ints IntKind.u8 32 (sN (nW (wN (addN (nW (wN (vS x))) (nW (wN (negN (nW (wN (vS y))))))))))))] else Option.none else Option.none else Option.none else Option.none else Option.none


noncomputable def E79 (N : Nat) : Env := { Θ := Th, Γ := GS, K := K79, ν := N79, fuel := 0, lp := [] }


theorem f79_contract (N : Nat) (hΓ : CtxOk Tryz.prog GS) : Contract Tryz.prog 79 { sig := S79, impl := fun _ ds k => call (E79 N) S79 12 B79 R79 ds k } :=
  call_contract (E := E79 N) thOk hΓ mixed ok79.look ok79.body ok79.n ok79.rv ok79.name rfl (by decide) (loopsOk_of (l := []) (by kernel_rfl) trivial)
theorem f79_raw_eq {R : Type} (N : Nat) (x : List Int) (y : List Int) (k : List DV → Option R) : call (E79 N) S79 12 B79 R79 [.v (.one (.ints .u8 32 x)), .v (.one (.ints .u8 32 y))] k = f79_raw N x y k := by kernel_rfl
end Go.Proofs.YtogcijgklnfjjaaGreat

namespace Go.Proofs.YtogcijgklnfjjaaGreat
open Go Go.Eng
set_option maxRecDepth 100000
set_option linter.unusedVariables false

noncomputable def f80_raw {R : Type} (N : Nat) (x : List Int) (y : List Int) (k : List DV → Option R) : Option R :=
 bif okB x then bif okB y then bif okN (wN (vS x)) && okN (wN (vS y)) then bif okW (wN (mulN (nW (wN (vS x))) (nW (wN (vS y))))) then k [DV.v (SV.one (At.ints IntKind.u8 32 (sN (nW (wN (mulN (nW (wN (vS x))) (nW (wN (vS y)))))))))] else Option.none else Option.none else Option.none else Option.none


noncomputable def E80 (N : Nat) : Env := { Θ := Th, Γ := GS, K := K80, ν := N80, fuel := 0, lp := [] }


theorem f80_contract (N : Nat) (hΓ : CtxOk Tryz.prog GS) : Contract Tryz.prog 80 { sig := S80, impl := fun _ ds k => call (E80 N) S80 11 B80 R80 ds k } :=
  call_contract (E := E80 N) thOk hΓ mixed ok80.look ok80.body ok80.n ok80.rv ok80.name rfl (by decide) (loopsOk_of (l := []) (by kernel_rfl) trivial)
theorem f80_raw_eq {R : Type} (N : Nat) (x : List Int) (y : List Int) (k : List DV → Option R) : call (E80 N) S80 11 B80 R80 [.v (.one (.ints .u8 32 x)), .v (.one (.ints .u8 32 y))] k = f80_raw N x y k := by kernel_rfl
end Go.Proofs.YtogcijgklnfjjaaGreat

namespace Go.Proofs.YtogcijgklnfjjaaGreat
open Go Go.Eng
set_option maxRecDepth 100000
set_option linter.unusedVariables false

noncomputable def f74_raw {R : Type} (N : Nat) (x : List Int) (y : List Int) (z : List Int) (k : List DV → Option R) : Option R :=
 bif okB x then bif okB y then bif okN (wN (vS x)) && okN (wN (vS y)) then bif okB z then bif okN (wN (mulN (nW (wN (vS x))) (nW (wN (vS y))))) && okN (wN (vS z)) then bif okW (wN (addN (nW (wN (mulN (nW (wN (vS x))) (nW (wN (vS y)))))) (nW (wN (vS z))))) then k [DV.v (SV.one (At.ints IntKind.u8 32 (sN (nW (wN (addN (nW (wN (mulN (nW (wN (vS x))) (nW (wN (vS y)))))) (nW (wN (vS z)))))))))] else Option.none else Option.none else Option.none else Option.none else Option.none else Option.none


noncomputable def E74 (N : Nat) : Env := { Θ := Th, Γ := GS, K := K74, ν := N74, fuel := 0, lp := [] }


theorem f74_contract (N : Nat) (hΓ : CtxOk Tryz.prog GS) : Contract Tryz.prog 74 { sig := S74, impl := fun _ ds k => call (E74 N) S74 16 B74 R74 ds k } :=
  call_contract (E := E74 N) thOk hΓ mixed ok74.look ok74.body ok74.n ok74.rv ok74.name rfl (by decide) (loopsOk_of (l := []) (by kernel_rfl) trivial)
theorem f74_raw_eq {R : Type} (N : Nat) (x : List Int) (y : List Int) (z : List Int) (k : List DV → Option R) : call (E74 N) S74 16 B74 R74 [.v (.one (.ints .u8 32 x)), .v (.one (.ints .u8 32 y)), .v (.one (.ints .u8 32 z))] k = f74_raw N x y z k := by kernel_rfl
end Go.Proofs.YtogcijgklnfjjaaGreat

namespace Go.Proofs.YtogcijgklnfjjaaGreat
open Go Go.Eng
set_option maxRecDepth 100000
set_option linter.unusedVariables false

noncomputable def f111_raw {R : Type} (N : Nat) (x : List Int) (k : List DV → Option R) : Option R :=
 bif okB x then bif okN (wN (vS x)) then bif okW (wN (negN (nW (wN (vS x))))) then k [DV.v (SV.one (At.ints IntKind.u8 32 (sN (nW (wN (negN (nW (wN (vS x)))))))))] else Option.none else Option.none else Option.none


noncomputable def E111 (N : Nat) : Env := { Θ := Th, Γ := GS, K := K111, ν := N111, fuel := 0, lp := [] }


theorem f111_contract (N : Nat) (hΓ : CtxOk Tryz.prog GS) : Contract Tryz.prog 111 { sig := S111, impl := fun _ ds k => call (E111 N) S111 7 B111 R111 ds k } :=
  call_contract (E := E111 N) thOk hΓ mixed ok111.look ok111.body ok111.n ok111.rv ok111.name rfl (by decide) (loopsOk_of (l := []) (by kernel_rfl) trivial)
theorem f111_raw_eq {R : Type} (N : Nat) (x : List Int) (k : List DV → Option R) : call (E111 N) S111 7 B111 R111 [.v (.one (.ints .u8 32 x))] k = f111_raw N x k := by kernel_rfl
end Go.Proofs.YtogcijgklnfjjaaGreat

namespace Go.Proofs.YtogcijgklnfjjaaGreat
open Go Go.Eng
set_option maxRecDepth 100000
set_option linter.unusedVariables false

noncomputable def f154_raw {R : Type} (N : Nat) (x : List Int) (k : List DV → Option R) : Option R :=
 bif okB x then k [DV.v (SV.one (At.bool (Decidable.decide (wN (vS x) = List.replicate 4 0))))] else Option.none


noncomputable def E154 (N : Nat) : Env := { Θ := Th, Γ := GS, K := K154, ν := N154, fuel := 0, lp := [] }


theorem f154_contract (N : Nat) (hΓ : CtxOk Tryz.prog GS) : Contract Tryz.prog 154 { sig := S154, impl := fun _ ds k => call (E154 N) S154 7 B154 R154 ds k } :=
  call_contract (E := E154 N) thOk hΓ mixed ok154.look ok154.body ok154.n ok154.rv ok154.name rfl (by decide) (loopsOk_of (l := []) (by kernel_rfl) trivial)
theorem f154_raw_eq {R : Type} (N : Nat) (x : List Int) (k : List DV → Option R) : call (E154 N) S154 7 B154 R154 [.v (.one (.ints .u8 32 x))] k = f154_raw N x k := by kernel_rfl
end Go.Proofs.YtogcijgklnfjjaaGreat

namespace Go.Proofs.YtogcijgklnfjjaaGreat
open Go Go.Eng
set_option maxRecDepth 100000
set_option linter.unusedVariables false

noncomputable def f78_raw {R : Type} (N : Nat) (x : List Int) (k : List DV → Option R) : Option R :=
 bif okB x then bif Decidable.decide (wN (vS x) = List.replicate 4 0) then k [DV.v (SV.one (At.ints IntKind.u8 32 (List.replicate 32 0))), DV.v (SV.one (At.int IntKind.i64 9))] else bif okN (wN (vS x)) && okW ordW2 then bif okW (wN (powN (nW (wN (vS x))) (nW ordW2))) then k [DV.v (SV.one (At.ints IntKind.u8 32 (sN (nW (wN (powN (nW (wN (vS x))) (nW ordW2))))))), DV.v (SV.one (At.int IntKind.i64 0))] else Option.none else Option.none else Option.none


noncomputable def E78 (N : Nat) : Env := { Θ := Th, Γ := GS, K := K78, ν := N78, fuel := 0, lp := [] }


theorem f78_contract (N : Nat) (hΓ : CtxOk Tryz.prog GS) : Contract Tryz.prog 78 { sig := S78, impl := fun _ ds k => call (E78 N) S78 23 B78 R78 ds k } :=
  call_contract (E := E78 N) thOk hΓ mixed ok78.look ok78.body ok78.n ok78.rv ok78.name rfl (by decide) (loopsOk_of (l := []) (by kernel_rfl) trivial)
theorem f78_raw_eq {R : Type} (N : Nat) (x : List Int) (k : List DV → Option R) : call (E78 N) S78 23 B78 R78 [.v (.one (.ints .u8 32 x))] k = f78_raw N x k := by kernel_rfl
end Go.Proofs.YtogcijgklnfjjaaGreat

