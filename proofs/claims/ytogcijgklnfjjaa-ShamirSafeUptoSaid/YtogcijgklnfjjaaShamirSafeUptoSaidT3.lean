/- A part of the proof: ShamirSafe: the secret is safe: for any shares, secret and other polynomial whose data stay within 1,048,576: one polynomial has both, and no other. -/
import Derived.Test.YtogcijgklnfjjaaShamirSafeUptoSaidT2
import Derived.Test.YtogcijgklnfjjaaProg
import Derived.KernelRfl
import Derived.Laws.Externs
set_option linter.unusedVariables false
set_option linter.unusedSimpArgs false

namespace Go.Proofs.Ytogcijgklnfjjaa
open Go Go.Eng

set_option maxRecDepth 100000

def Th : Types := [(3, ⟨.int .i64, 1, 8, [.int .i64 0]⟩),
  (4, ⟨.bool, 1, 1, [.bool false]⟩),
  (5, ⟨.int .u8, 1, 1, [.int .u8 0]⟩),
  (9, ⟨.str, 1, 16, [.dead]⟩),
  (22, ⟨.slice 32, 1, 24, [.nils]⟩),
  (23, ⟨.slice 30, 1, 24, [.nils]⟩),
  (24, ⟨.int .i64, 1, 8, [.int .i64 0]⟩),
  (30, ⟨.array 32 5, 32, 32, [.ints .u8 32 (List.replicate 32 0)]⟩),
  (32, ⟨.struct [(30, 0), (30, 32)], 64, 64, [.ints .u8 32 (List.replicate 32 0), .ints .u8 32 (List.replicate 32 0)]⟩),
  (37, ⟨.slice 3, 1, 24, [.nils]⟩),
  (39, ⟨.slice 43, 1, 24, [.nils]⟩),
  (43, ⟨.struct [(3, 0), (30, 1)], 33, 40, [.int .i64 0, .ints .u8 32 (List.replicate 32 0)]⟩),
  (52, ⟨.slice 4, 1, 24, [.nils]⟩),
  (66, ⟨.map 30 3, 1, 8, [.dead]⟩),
  (69, ⟨.int .u32, 1, 4, [.int .u32 0]⟩),
  (71, ⟨.array 8 69, 8, 32, [.ints .u32 8 (List.replicate 8 0)]⟩),
  (73, ⟨.slice 69, 1, 24, [.nils]⟩),
  (74, ⟨.int .u64, 1, 8, [.int .u64 0]⟩),
  (75, ⟨.int .u64, 1, 8, [.int .u64 0]⟩),
  (96, ⟨.array 4 74, 4, 32, [.ints .u64 4 (List.replicate 4 0)]⟩),
  (106, ⟨.slice 5, 1, 24, [.nils]⟩),
  (110, ⟨.map 3 3, 1, 8, [.dead]⟩),
  (112, ⟨.slice 23, 1, 24, [.nils]⟩),
  (128, ⟨.int .i64, 1, 8, [.int .i64 0]⟩),
  (138, ⟨.array 6 74, 6, 48, [.ints .u64 6 (List.replicate 6 0)]⟩)]

theorem thOk : TypesOk Try.prog Th := tysB_ok (by kernel_rfl)

theorem mixed : Try.prog.follows .mixedOrders = true := by kernel_rfl

def ck32 : List CK := List.replicate 64 (.int .u8)
def ck43 : List CK := [.int .i64] ++ List.replicate 32 (.int .u8)

noncomputable def B3 : Code := (Try.f3.body.getD .skip)
noncomputable def B4 : Code := (Try.f4.body.getD .skip)
noncomputable def B5 : Code := (Try.f5.body.getD .skip)
def R5 : List ResultVar := [.tmp 6]
def K5 : List Nat := [0, 2, 4, 6, 7, 8, 9, 10, 11, 12, 13, 14, 16, 19, 26, 64, 91, 109, 142]
def N5_2 : Nrm := { slots := [.tmp 0, .tmp 2, .tmp 10, .tmp 12, .tmp 13], items := [0, 2, 67] }
def N5_0 : Nrm := { slots := [.tmp 0, .tmp 2, .tmp 4, .row 7 1000007 (.one .i64) 1, .row 8 1000008 (.mix ck32) 64, .tmp 9], items := [0, 2, 4] }
noncomputable def B5_2 : Code := bodyIn 2 (loopsIn B5)
noncomputable def B5_0 : Code := bodyIn 0 (loopsIn B5)
def N5 : Nrms := [(2, N5_2), (0, N5_0)]
theorem ok5 : FnOk Try.prog 5 Try.f5 157 B5 R5 := ⟨by kernel_rfl, by kernel_rfl, by kernel_rfl, by kernel_rfl, by decide +kernel⟩

noncomputable def B6 : Code := (Try.f6.body.getD .skip)
noncomputable def B9 : Code := (Try.f9.body.getD .skip)
def S9 : Sig := { ps := [.view (.mix ck32) 64], rs := [.fresh (.one .u8) 32, .val] }
def R9 : List ResultVar := [.tmp 2, .tmp 3]
def K9 : List Nat := [0, 2, 3, 4, 5, 6, 7, 8, 9, 10, 11, 12, 13, 14, 16, 17, 18, 26, 28, 29, 30, 31, 42, 52, 53, 54, 55, 69, 76, 116, 122]
def N9_10 : Nrm := { slots := [.tmp 0, .tmp 8, .tmp 9, .tmp 16, .tmp 17, .tmp 18], items := [0, 51, 112] }
def N9_8 : Nrm := { slots := [.tmp 0, .tmp 8, .tmp 9, .tmp 16, .tmp 17], items := [0, 51, 112] }
def N9_6 : Nrm := { slots := [.tmp 0, .tmp 8, .tmp 9, .tmp 12, .tmp 13], items := [0, 51] }
def N9_4 : Nrm := { slots := [.tmp 0, .tmp 8, .tmp 9, .tmp 12], items := [0, 51] }
def N9_2 : Nrm := { slots := [.tmp 0, .tmp 8, .tmp 9, .tmp 52, .tmp 53, .tmp 54], items := [0, 51] }
def N9_0 : Nrm := { slots := [.tmp 0, .tmp 4, .tmp 28, .tmp 29, .tmp 30], items := [0, 27] }
noncomputable def B9_10 : Code := bodyIn 10 (loopsIn B9)
noncomputable def B9_8 : Code := bodyIn 8 (loopsIn B9)
noncomputable def B9_6 : Code := bodyIn 6 (loopsIn B9)
noncomputable def B9_4 : Code := bodyIn 4 (loopsIn B9)
noncomputable def B9_2 : Code := bodyIn 2 (loopsIn B9)
noncomputable def B9_0 : Code := bodyIn 0 (loopsIn B9)
def N9 : Nrms := [(10, N9_10), (8, N9_8), (6, N9_6), (4, N9_4), (2, N9_2), (0, N9_0)]
theorem ok9 : FnOk Try.prog 9 Try.f9 161 B9 R9 := ⟨by kernel_rfl, by kernel_rfl, by kernel_rfl, by kernel_rfl, by decide +kernel⟩

noncomputable def B11 : Code := (Try.f11.body.getD .skip)
def S11 : Sig := { ps := [.view (.one .u8) 32, .view (.one .u8) 32], rs := [.val] }
def R11 : List ResultVar := [.tmp 4]
def K11 : List Nat := [0, 1, 4, 5, 10, 14, 25]
def N11_0 : Nrm := { slots := [.tmp 0, .tmp 1, .tmp 5], items := [0, 1] }
noncomputable def B11_0 : Code := bodyIn 0 (loopsIn B11)
def N11 : Nrms := [(0, N11_0)]
theorem ok11 : FnOk Try.prog 11 Try.f11 26 B11 R11 := ⟨by kernel_rfl, by kernel_rfl, by kernel_rfl, by kernel_rfl, by decide +kernel⟩

noncomputable def B12 : Code := (Try.f12.body.getD .skip)
def S12 : Sig := { ps := [.val], rs := [.val] }
def R12 : List ResultVar := [.tmp 2]
def K12 : List Nat := [0, 2]
def N12 : Nrms := []
theorem ok12 : FnOk Try.prog 12 Try.f12 4 B12 R12 := ⟨by kernel_rfl, by kernel_rfl, by kernel_rfl, by kernel_rfl, by decide +kernel⟩

noncomputable def B13 : Code := (Try.f13.body.getD .skip)
def S13 : Sig := { ps := [], rs := [.val] }
def R13 : List ResultVar := [.tmp 0]
def K13 : List Nat := [0, 1, 2, 3, 4, 5, 6, 7, 46]
theorem ok13 : FnOk Try.prog 13 Try.f13 88 B13 R13 := ⟨by kernel_rfl, by kernel_rfl, by kernel_rfl, by kernel_rfl, by decide +kernel⟩

noncomputable def B14 : Code := (Try.f14.body.getD .skip)
def S14 : Sig := { ps := [.val, .val], rs := [.val] }
def R14 : List ResultVar := [.cell 4 30]
def K14 : List Nat := [2, 3, 4, 5, 6, 7, 8, 9, 16]
def N14_0 : Nrm := { slots := [.tmp 4, .tmp 5, .tmp 6, .tmp 7, .tmp 8, .tmp 9], items := [4, 5, 6, 14] }
noncomputable def B14_0 : Code := bodyIn 0 (loopsIn B14)
def N14 : Nrms := [(0, N14_0)]
theorem ok14 : FnOk Try.prog 14 Try.f14 44 B14 R14 := ⟨by kernel_rfl, by kernel_rfl, by kernel_rfl, by kernel_rfl, by decide +kernel⟩

noncomputable def B15 : Code := (Try.f15.body.getD .skip)
def S15 : Sig := { ps := [.val, .val], rs := [.val] }
def R15 : List ResultVar := [.cell 4 30]
def K15 : List Nat := [2, 3, 4]
def N15 : Nrms := []
theorem ok15 : FnOk Try.prog 15 Try.f15 11 B15 R15 := ⟨by kernel_rfl, by kernel_rfl, by kernel_rfl, by kernel_rfl, by decide +kernel⟩

noncomputable def B16 : Code := (Try.f16.body.getD .skip)
def S16 : Sig := { ps := [.view (.one .u8) 32, .view (.one .i64) 1], rs := [.fresh (.mix ck43) 33, .val] }
def R16 : List ResultVar := [.tmp 4, .tmp 5]
def K16 : List Nat := [0, 1, 4, 5, 6, 7, 9, 13, 15, 16, 17, 18]
noncomputable def B16_0 : Code := bodyIn 0 (loopsIn B16)
theorem ok16 : FnOk Try.prog 16 Try.f16 32 B16 R16 := ⟨by kernel_rfl, by kernel_rfl, by kernel_rfl, by kernel_rfl, by decide +kernel⟩

noncomputable def B17 : Code := (Try.f17.body.getD .skip)
def S17 : Sig := { ps := [.val], rs := [.val] }
def R17 : List ResultVar := [.cell 2 30]
def K17 : List Nat := [0, 2]
def N17 : Nrms := []
theorem ok17 : FnOk Try.prog 17 Try.f17 6 B17 R17 := ⟨by kernel_rfl, by kernel_rfl, by kernel_rfl, by kernel_rfl, by decide +kernel⟩

noncomputable def B18 : Code := (Try.f18.body.getD .skip)
def S18 : Sig := { ps := [.view (.one .i64) 1], rs := [.val] }
def R18 : List ResultVar := [.tmp 2]
def K18 : List Nat := [0, 2, 3, 4, 7, 11, 25, 28, 39]
def N18_2 : Nrm := { slots := [.tmp 0, .tmp 3, .tmp 4], items := [0] }
def N18_0 : Nrm := { slots := [.tmp 0, .tmp 3], items := [0] }
noncomputable def B18_2 : Code := bodyIn 2 (loopsIn B18)
noncomputable def B18_0 : Code := bodyIn 0 (loopsIn B18)
def N18 : Nrms := [(2, N18_2), (0, N18_0)]
theorem ok18 : FnOk Try.prog 18 Try.f18 40 B18 R18 := ⟨by kernel_rfl, by kernel_rfl, by kernel_rfl, by kernel_rfl, by decide +kernel⟩

noncomputable def B19 : Code := (Try.f19.body.getD .skip)
def S19 : Sig := { ps := [.view (.one .u8) 32, .val], rs := [.val] }
def R19 : List ResultVar := [.cell 4 30]
def K19 : List Nat := [0, 3, 4, 5, 6, 11]
def N19_0 : Nrm := { slots := [.tmp 0, .tmp 3, .tmp 4, .tmp 5, .tmp 6], items := [0, 3, 4, 5] }
noncomputable def B19_0 : Code := bodyIn 0 (loopsIn B19)
def N19 : Nrms := [(0, N19_0)]
theorem ok19 : FnOk Try.prog 19 Try.f19 22 B19 R19 := ⟨by kernel_rfl, by kernel_rfl, by kernel_rfl, by kernel_rfl, by decide +kernel⟩

noncomputable def B20 : Code := (Try.f20.body.getD .skip)
def S20 : Sig := { ps := [.view (.one .u8) 32], rs := [.fresh (.one .u8) 32] }
def R20 : List ResultVar := [.tmp 2]
def K20 : List Nat := [0, 2, 3, 4, 8]
def N20_0 : Nrm := { slots := [.tmp 0, .row 3 1000003 (.one .u8) 32, .tmp 4], items := [0] }
noncomputable def B20_0 : Code := bodyIn 0 (loopsIn B20)
def N20 : Nrms := [(0, N20_0)]
theorem ok20 : FnOk Try.prog 20 Try.f20 21 B20 R20 := ⟨by kernel_rfl, by kernel_rfl, by kernel_rfl, by kernel_rfl, by decide +kernel⟩

noncomputable def B21 : Code := (Try.f21.body.getD .skip)
def S21 : Sig := { ps := [.view (.one .u8) 32, .val], rs := [.val, .val] }
def R21 : List ResultVar := [.cell 4 30, .tmp 5]
def K21 : List Nat := [0, 1, 4, 5, 8]
def N21 : Nrms := []
theorem ok21 : FnOk Try.prog 21 Try.f21 14 B21 R21 := ⟨by kernel_rfl, by kernel_rfl, by kernel_rfl, by kernel_rfl, by decide +kernel⟩

noncomputable def B22 : Code := (Try.f22.body.getD .skip)
def S22 : Sig := { ps := [.view (.mix ck43) 33, .val], rs := [.fresh (.one .u8) 32, .fresh (.one .i64) 1, .val] }
def R22 : List ResultVar := [.tmp 4, .tmp 5, .tmp 6]
def K22 : List Nat := [0, 1, 4, 5, 6, 7, 8, 9, 10, 11, 12, 13, 14, 23, 38, 39, 40, 41, 42, 54, 67]
noncomputable def B22_0 : Code := bodyIn 0 (loopsIn B22)
theorem ok22 : FnOk Try.prog 22 Try.f22 72 B22 R22 := ⟨by kernel_rfl, by kernel_rfl, by kernel_rfl, by kernel_rfl, by decide +kernel⟩

noncomputable def B24 : Code := (Try.f24.body.getD .skip)
def S24 : Sig := { ps := [.view (.mix ck43) 33, .val], rs := [.val, .val] }
def R24 : List ResultVar := [.cell 4 30, .tmp 5]
def K24 : List Nat := [0, 1, 4, 5, 6, 7, 16, 22]
theorem ok24 : FnOk Try.prog 24 Try.f24 29 B24 R24 := ⟨by kernel_rfl, by kernel_rfl, by kernel_rfl, by kernel_rfl, by decide +kernel⟩

noncomputable def B28 : Code := (Try.f28.body.getD .skip)
def S28 : Sig := { ps := [.val, .val, .val], rs := [.val] }
def R28 : List ResultVar := [.cell 6 30]
def K28 : List Nat := [3, 4, 5, 6]
def N28 : Nrms := []
theorem ok28 : FnOk Try.prog 28 Try.f28 12 B28 R28 := ⟨by kernel_rfl, by kernel_rfl, by kernel_rfl, by kernel_rfl, by decide +kernel⟩

noncomputable def B30 : Code := (Try.f30.body.getD .skip)
def S30 : Sig := { ps := [.val, .val], rs := [.val] }
def R30 : List ResultVar := [.cell 4 30]
def K30 : List Nat := [2, 3, 4]
def N30 : Nrms := []
theorem ok30 : FnOk Try.prog 30 Try.f30 11 B30 R30 := ⟨by kernel_rfl, by kernel_rfl, by kernel_rfl, by kernel_rfl, by decide +kernel⟩

noncomputable def B31 : Code := (Try.f31.body.getD .skip)
def S31 : Sig := { ps := [.val], rs := [.val, .val] }
def R31 : List ResultVar := [.cell 2 30, .tmp 3]
def K31 : List Nat := [1, 2, 3, 4, 5, 11]
def N31 : Nrms := []
theorem ok31 : FnOk Try.prog 31 Try.f31 23 B31 R31 := ⟨by kernel_rfl, by kernel_rfl, by kernel_rfl, by kernel_rfl, by decide +kernel⟩

noncomputable def B32 : Code := (Try.f32.body.getD .skip)
def S32 : Sig := { ps := [.val, .val], rs := [.val] }
def R32 : List ResultVar := [.cell 4 30]
def K32 : List Nat := [2, 3, 4]
def N32 : Nrms := []
theorem ok32 : FnOk Try.prog 32 Try.f32 12 B32 R32 := ⟨by kernel_rfl, by kernel_rfl, by kernel_rfl, by kernel_rfl, by decide +kernel⟩

noncomputable def B33 : Code := (Try.f33.body.getD .skip)
def S33 : Sig := { ps := [.val, .val], rs := [.val] }
def R33 : List ResultVar := [.cell 4 30]
def K33 : List Nat := [2, 3, 4]
def N33 : Nrms := []
theorem ok33 : FnOk Try.prog 33 Try.f33 11 B33 R33 := ⟨by kernel_rfl, by kernel_rfl, by kernel_rfl, by kernel_rfl, by decide +kernel⟩

noncomputable def B35 : Code := (Try.f35.body.getD .skip)
def S35 : Sig := { ps := [.val], rs := [.val] }
def R35 : List ResultVar := [.cell 2 71]
def K35 : List Nat := [1, 2]
def N35 : Nrms := []
theorem ok35 : FnOk Try.prog 35 Try.f35 6 B35 R35 := ⟨by kernel_rfl, by kernel_rfl, by kernel_rfl, by kernel_rfl, by decide +kernel⟩

noncomputable def B36 : Code := (Try.f36.body.getD .skip)
def S36 : Sig := { ps := [.val], rs := [.val] }
def R36 : List ResultVar := [.cell 2 30]
def K36 : List Nat := [1, 2, 3, 4, 6]
def N36_0 : Nrm := { slots := [.tmp 1, .tmp 2, .tmp 3, .tmp 4], items := [1, 2, 3] }
noncomputable def B36_0 : Code := bodyIn 0 (loopsIn B36)
def N36 : Nrms := [(0, N36_0)]
theorem ok36 : FnOk Try.prog 36 Try.f36 22 B36 R36 := ⟨by kernel_rfl, by kernel_rfl, by kernel_rfl, by kernel_rfl, by decide +kernel⟩

noncomputable def B37 : Code := (Try.f37.body.getD .skip)
def S37 : Sig := { ps := [.view (.one .u32) 1], rs := [.val] }
def R37 : List ResultVar := [.cell 2 71]
def K37 : List Nat := [0, 2, 3, 4, 5, 6, 12, 16, 32]
def N37_2 : Nrm := { slots := [.tmp 0, .tmp 2, .tmp 3, .tmp 4, .tmp 5, .tmp 6], items := [0, 2, 3, 4] }
def N37_0 : Nrm := { slots := [.tmp 0, .tmp 2, .tmp 3, .tmp 4, .tmp 5], items := [0, 2, 3, 4] }
noncomputable def B37_2 : Code := bodyIn 2 (loopsIn B37)
noncomputable def B37_0 : Code := bodyIn 0 (loopsIn B37)
def N37 : Nrms := [(2, N37_2), (0, N37_0)]
theorem ok37 : FnOk Try.prog 37 Try.f37 37 B37 R37 := ⟨by kernel_rfl, by kernel_rfl, by kernel_rfl, by kernel_rfl, by decide +kernel⟩

noncomputable def B38 : Code := (Try.f38.body.getD .skip)
def S38 : Sig := { ps := [.val, .val], rs := [.val] }
def R38 : List ResultVar := [.cell 4 71]
def K38 : List Nat := [2, 3, 4, 5, 6, 7, 8, 11, 15]
def N38_2 : Nrm := { slots := [.tmp 2, .tmp 3, .tmp 4, .tmp 5, .tmp 6, .tmp 7, .tmp 8], items := [2, 3, 4, 9] }
def N38_0 : Nrm := { slots := [.tmp 2, .tmp 3, .tmp 4, .tmp 5, .tmp 6], items := [2, 3, 4, 9] }
noncomputable def B38_2 : Code := bodyIn 2 (loopsIn B38)
noncomputable def B38_0 : Code := bodyIn 0 (loopsIn B38)
def N38 : Nrms := [(2, N38_2), (0, N38_0)]
theorem ok38 : FnOk Try.prog 38 Try.f38 54 B38 R38 := ⟨by kernel_rfl, by kernel_rfl, by kernel_rfl, by kernel_rfl, by decide +kernel⟩

noncomputable def B39 : Code := (Try.f39.body.getD .skip)
def S39 : Sig := { ps := [.view (.one .i64) 1], rs := [.val] }
def R39 : List ResultVar := [.tmp 2]
def K39 : List Nat := [0, 2, 3, 4, 5, 8, 10, 11, 12, 13, 19, 23]
def N39_0 : Nrm := { slots := [.tmp 3, .tmp 10, .tmp 11, .tmp 12], items := [0, 9] }
noncomputable def B39_0 : Code := bodyIn 0 (loopsIn B39)
def N39 : Nrms := [(0, N39_0)]
theorem ok39 : FnOk Try.prog 39 Try.f39 29 B39 R39 := ⟨by kernel_rfl, by kernel_rfl, by kernel_rfl, by kernel_rfl, by decide +kernel⟩

noncomputable def B40 : Code := (Try.f40.body.getD .skip)
def S40 : Sig := { ps := [.val], rs := [.val] }
def R40 : List ResultVar := [.cell 2 30]
def K40 : List Nat := [0, 2]
def N40 : Nrms := []
theorem ok40 : FnOk Try.prog 40 Try.f40 6 B40 R40 := ⟨by kernel_rfl, by kernel_rfl, by kernel_rfl, by kernel_rfl, by decide +kernel⟩

noncomputable def B41 : Code := (Try.f41.body.getD .skip)
def S41 : Sig := { ps := [.val], rs := [.val] }
def R41 : List ResultVar := [.cell 2 30]
def K41 : List Nat := [0, 2, 3, 4, 6]
def N41_0 : Nrm := { slots := [.tmp 0, .tmp 2, .tmp 3, .tmp 4], items := [2, 3] }
noncomputable def B41_0 : Code := bodyIn 0 (loopsIn B41)
def N41 : Nrms := [(0, N41_0)]
theorem ok41 : FnOk Try.prog 41 Try.f41 18 B41 R41 := ⟨by kernel_rfl, by kernel_rfl, by kernel_rfl, by kernel_rfl, by decide +kernel⟩

noncomputable def B42 : Code := (Try.f42.body.getD .skip)
def S42 : Sig := { ps := [.val, .val, .val], rs := [.val] }
def R42 : List ResultVar := [.cell 6 30]
def K42 : List Nat := [3, 4, 5, 6]
def N42 : Nrms := []
theorem ok42 : FnOk Try.prog 42 Try.f42 16 B42 R42 := ⟨by kernel_rfl, by kernel_rfl, by kernel_rfl, by kernel_rfl, by decide +kernel⟩

noncomputable def B43 : Code := (Try.f43.body.getD .skip)
def S43 : Sig := { ps := [.val], rs := [.val] }
def R43 : List ResultVar := [.tmp 2]
def K43 : List Nat := [0, 2]
def N43 : Nrms := []
theorem ok43 : FnOk Try.prog 43 Try.f43 9 B43 R43 := ⟨by kernel_rfl, by kernel_rfl, by kernel_rfl, by kernel_rfl, by decide +kernel⟩

noncomputable def B44 : Code := (Try.f44.body.getD .skip)
def S44 : Sig := { ps := [.view (.mix ck43) 33, .val, .val], rs := [.fresh (.mix ck32) 64, .val] }
def R44 : List ResultVar := [.tmp 6, .tmp 7]
def K44 : List Nat := [0, 1, 2, 6, 7, 8, 9, 10, 14, 19]
theorem ok44 : FnOk Try.prog 44 Try.f44 28 B44 R44 := ⟨by kernel_rfl, by kernel_rfl, by kernel_rfl, by kernel_rfl, by decide +kernel⟩

noncomputable def B45 : Code := (Try.f45.body.getD .skip)
def S45 : Sig := { ps := [.view (.mix ck32) 64, .val, .val], rs := [.fresh (.one .u8) 32, .val] }
def R45 : List ResultVar := [.tmp 6, .tmp 7]
def K45 : List Nat := [0, 1, 2, 6, 7, 8, 9, 11, 12, 13, 14, 15, 16, 17, 18, 23, 24, 25, 26, 35, 36, 37, 45, 60, 85]
noncomputable def B45_2 : Code := bodyIn 2 (loopsIn B45)
noncomputable def B45_0 : Code := bodyIn 0 (loopsIn B45)
theorem ok45 : FnOk Try.prog 45 Try.f45 106 B45 R45 := ⟨by kernel_rfl, by kernel_rfl, by kernel_rfl, by kernel_rfl, by decide +kernel⟩

noncomputable def B46 : Code := (Try.f46.body.getD .skip)
def R46 : List ResultVar := []
def K46 : List Nat := [0, 2]
theorem ok46 : FnOk Try.prog 46 Try.f46 11 B46 R46 := ⟨by kernel_rfl, by kernel_rfl, by kernel_rfl, by kernel_rfl, by decide +kernel⟩

noncomputable def B47 : Code := (Try.f47.body.getD .skip)
def S47 : Sig := { ps := [.view (.mix ck32) 64, .val], rs := [.val] }
def R47 : List ResultVar := [.tmp 4]
def K47 : List Nat := [0, 1, 4, 5, 8, 12, 22, 23, 24, 25, 36]
noncomputable def B47_0 : Code := bodyIn 0 (loopsIn B47)
theorem ok47 : FnOk Try.prog 47 Try.f47 38 B47 R47 := ⟨by kernel_rfl, by kernel_rfl, by kernel_rfl, by kernel_rfl, by decide +kernel⟩

noncomputable def B48 : Code := (Try.f48.body.getD .skip)
def S48 : Sig := { ps := [.view (.mix ck32) 64, .val], rs := [.val] }
def R48 : List ResultVar := [.cell 4 30]
def K48 : List Nat := [0, 3, 4, 5, 6, 8, 9, 11, 12, 13, 14]
noncomputable def B48_0 : Code := bodyIn 0 (loopsIn B48)
theorem ok48 : FnOk Try.prog 48 Try.f48 37 B48 R48 := ⟨by kernel_rfl, by kernel_rfl, by kernel_rfl, by kernel_rfl, by decide +kernel⟩

noncomputable def B49 : Code := (Try.f49.body.getD .skip)
def S49 : Sig := { ps := [.view (.mix ck43) 33], rs := [.fresh (.one .i64) 1, .fresh (.mix ck32) 64] }
def R49 : List ResultVar := [.tmp 2, .tmp 3]
def K49 : List Nat := [0, 2, 3, 4, 5, 7, 8, 9, 10, 11]
noncomputable def B49_0 : Code := bodyIn 0 (loopsIn B49)
theorem ok49 : FnOk Try.prog 49 Try.f49 31 B49 R49 := ⟨by kernel_rfl, by kernel_rfl, by kernel_rfl, by kernel_rfl, by decide +kernel⟩

noncomputable def B50 : Code := (Try.f50.body.getD .skip)
def S50 : Sig := { ps := [.view (.one .u8) 32, .val], rs := [.fresh (.one .u8) 32] }
def R50 : List ResultVar := [.tmp 4]
def K50 : List Nat := [0, 3, 4, 5, 6, 7, 8, 9, 17, 18, 19, 30, 31, 32, 36, 77, 78, 79]
noncomputable def B50_4 : Code := bodyIn 4 (loopsIn B50)
noncomputable def B50_2 : Code := bodyIn 2 (loopsIn B50)
noncomputable def B50_0 : Code := bodyIn 0 (loopsIn B50)
theorem ok50 : FnOk Try.prog 50 Try.f50 95 B50 R50 := ⟨by kernel_rfl, by kernel_rfl, by kernel_rfl, by kernel_rfl, by decide +kernel⟩

noncomputable def B53 : Code := (Try.f53.body.getD .skip)
def S53 : Sig := { ps := [.val], rs := [.val] }
def R53 : List ResultVar := [.cell 2 30]
def K53 : List Nat := [1, 2, 3, 4, 5, 6]
def N53_0 : Nrm := { slots := [.tmp 1, .tmp 2, .tmp 3, .tmp 5], items := [1, 2, 3] }
noncomputable def B53_0 : Code := bodyIn 0 (loopsIn B53)
def N53 : Nrms := [(0, N53_0)]
theorem ok53 : FnOk Try.prog 53 Try.f53 21 B53 R53 := ⟨by kernel_rfl, by kernel_rfl, by kernel_rfl, by kernel_rfl, by decide +kernel⟩

noncomputable def B54 : Code := (Try.f54.body.getD .skip)
def S54 : Sig := { ps := [.val, .val], rs := [.val] }
def R54 : List ResultVar := [.cell 4 96]
def K54 : List Nat := [2, 3, 4, 5, 6, 7, 8, 9]
def N54_0 : Nrm := { slots := [.tmp 2, .tmp 3, .tmp 4, .tmp 5, .tmp 6, .tmp 8], items := [2, 3, 4, 5] }
noncomputable def B54_0 : Code := bodyIn 0 (loopsIn B54)
def N54 : Nrms := [(0, N54_0)]
theorem ok54 : FnOk Try.prog 54 Try.f54 27 B54 R54 := ⟨by kernel_rfl, by kernel_rfl, by kernel_rfl, by kernel_rfl, by decide +kernel⟩

noncomputable def B55 : Code := (Try.f55.body.getD .skip)
def S55 : Sig := { ps := [.val], rs := [.val] }
def R55 : List ResultVar := [.cell 2 96]
def K55 : List Nat := [1, 2, 3, 6, 7]
def N55_0 : Nrm := { slots := [.tmp 2, .tmp 3, .tmp 6], items := [2, 3] }
noncomputable def B55_0 : Code := bodyIn 0 (loopsIn B55)
def N55 : Nrms := [(0, N55_0)]
theorem ok55 : FnOk Try.prog 55 Try.f55 12 B55 R55 := ⟨by kernel_rfl, by kernel_rfl, by kernel_rfl, by kernel_rfl, by decide +kernel⟩

noncomputable def B56 : Code := (Try.f56.body.getD .skip)
def S56 : Sig := { ps := [.val, .val], rs := [.val, .val] }
def R56 : List ResultVar := [.cell 4 96, .tmp 5]
def K56 : List Nat := [2, 3, 4, 5, 6, 7, 8, 9, 10]
def N56_0 : Nrm := { slots := [.tmp 2, .tmp 3, .tmp 4, .tmp 6, .tmp 7, .tmp 9], items := [2, 3, 4, 6] }
noncomputable def B56_0 : Code := bodyIn 0 (loopsIn B56)
def N56 : Nrms := [(0, N56_0)]
theorem ok56 : FnOk Try.prog 56 Try.f56 28 B56 R56 := ⟨by kernel_rfl, by kernel_rfl, by kernel_rfl, by kernel_rfl, by decide +kernel⟩

noncomputable def B57 : Code := (Try.f57.body.getD .skip)
def S57 : Sig := { ps := [], rs := [.val] }
def R57 : List ResultVar := [.cell 0 96]
def K57 : List Nat := [0]
def N57 : Nrms := []
theorem ok57 : FnOk Try.prog 57 Try.f57 2 B57 R57 := ⟨by kernel_rfl, by kernel_rfl, by kernel_rfl, by kernel_rfl, by decide +kernel⟩

noncomputable def B58 : Code := (Try.f58.body.getD .skip)
def S58 : Sig := { ps := [.val, .val], rs := [.val] }
def R58 : List ResultVar := [.cell 4 96]
def K58 : List Nat := [2, 3, 4, 5, 6, 7, 15, 29]
def N58_0 : Nrm := { slots := [.tmp 3, .tmp 4, .tmp 5, .tmp 6, .tmp 7], items := [3, 4, 5, 6] }
noncomputable def B58_0 : Code := bodyIn 0 (loopsIn B58)
def N58 : Nrms := [(0, N58_0)]
theorem ok58 : FnOk Try.prog 58 Try.f58 36 B58 R58 := ⟨by kernel_rfl, by kernel_rfl, by kernel_rfl, by kernel_rfl, by decide +kernel⟩

noncomputable def B59 : Code := (Try.f59.body.getD .skip)
def S59 : Sig := { ps := [.val], rs := [.val] }
def R59 : List ResultVar := [.cell 2 96]
def K59 : List Nat := [1, 2, 3, 7]
def N59 : Nrms := []
theorem ok59 : FnOk Try.prog 59 Try.f59 16 B59 R59 := ⟨by kernel_rfl, by kernel_rfl, by kernel_rfl, by kernel_rfl, by decide +kernel⟩

noncomputable def B60 : Code := (Try.f60.body.getD .skip)
def S60 : Sig := { ps := [.val, .val], rs := [.val] }
def R60 : List ResultVar := [.cell 4 96]
def K60 : List Nat := [2, 3, 4]
def N60 : Nrms := []
theorem ok60 : FnOk Try.prog 60 Try.f60 10 B60 R60 := ⟨by kernel_rfl, by kernel_rfl, by kernel_rfl, by kernel_rfl, by decide +kernel⟩

noncomputable def B62 : Code := (Try.f62.body.getD .skip)
def S62 : Sig := { ps := [.val, .val], rs := [.val] }
def R62 : List ResultVar := [.cell 4 30]
def K62 : List Nat := [2, 3, 4]
def N62 : Nrms := []
theorem ok62 : FnOk Try.prog 62 Try.f62 9 B62 R62 := ⟨by kernel_rfl, by kernel_rfl, by kernel_rfl, by kernel_rfl, by decide +kernel⟩

noncomputable def B63 : Code := (Try.f63.body.getD .skip)
def S63 : Sig := { ps := [.val], rs := [.val, .val] }
def R63 : List ResultVar := [.cell 2 30, .tmp 3]
def K63 : List Nat := [1, 2, 3, 5]
def N63 : Nrms := []
theorem ok63 : FnOk Try.prog 63 Try.f63 10 B63 R63 := ⟨by kernel_rfl, by kernel_rfl, by kernel_rfl, by kernel_rfl, by decide +kernel⟩

noncomputable def B64 : Code := (Try.f64.body.getD .skip)
def S64 : Sig := { ps := [.view (.one .u8) 1], rs := [.fresh (.one .u32) 1] }
def R64 : List ResultVar := [.tmp 2]
def K64 : List Nat := [0, 2, 3, 4, 13]
def N64_0 : Nrm := { slots := [.tmp 0, .tmp 3, .tmp 4], items := [0, 9] }
noncomputable def B64_0 : Code := bodyIn 0 (loopsIn B64)
def N64 : Nrms := [(0, N64_0)]
theorem ok64 : FnOk Try.prog 64 Try.f64 37 B64 R64 := ⟨by kernel_rfl, by kernel_rfl, by kernel_rfl, by kernel_rfl, by decide +kernel⟩

noncomputable def B65 : Code := (Try.f65.body.getD .skip)
def S65 : Sig := { ps := [], rs := [.val] }
def R65 : List ResultVar := [.cell 0 71]
def K65 : List Nat := [0]
def N65 : Nrms := []
theorem ok65 : FnOk Try.prog 65 Try.f65 2 B65 R65 := ⟨by kernel_rfl, by kernel_rfl, by kernel_rfl, by kernel_rfl, by decide +kernel⟩

noncomputable def B66 : Code := (Try.f66.body.getD .skip)
def S66 : Sig := { ps := [.val, .val], rs := [.val] }
def R66 : List ResultVar := [.cell 4 71]
def K66 : List Nat := [1, 2, 4, 5, 6, 8]
def N66_0 : Nrm := { slots := [.tmp 1, .tmp 2, .tmp 4, .tmp 5], items := [2, 4] }
noncomputable def B66_0 : Code := bodyIn 0 (loopsIn B66)
def N66 : Nrms := [(0, N66_0)]
theorem ok66 : FnOk Try.prog 66 Try.f66 25 B66 R66 := ⟨by kernel_rfl, by kernel_rfl, by kernel_rfl, by kernel_rfl, by decide +kernel⟩

noncomputable def B67 : Code := (Try.f67.body.getD .skip)
def S67 : Sig := { ps := [.val, .val], rs := [.val] }
def R67 : List ResultVar := [.tmp 4]
def K67 : List Nat := [2, 3, 4, 5, 7, 16]
def N67_0 : Nrm := { slots := [.tmp 2, .tmp 3, .tmp 5], items := [2, 3] }
noncomputable def B67_0 : Code := bodyIn 0 (loopsIn B67)
def N67 : Nrms := [(0, N67_0)]
theorem ok67 : FnOk Try.prog 67 Try.f67 24 B67 R67 := ⟨by kernel_rfl, by kernel_rfl, by kernel_rfl, by kernel_rfl, by decide +kernel⟩

noncomputable def B68 : Code := (Try.f68.body.getD .skip)
def S68 : Sig := { ps := [.val, .val], rs := [.val] }
def R68 : List ResultVar := [.cell 4 71]
def K68 : List Nat := [2, 3, 4, 5, 6, 7, 9]
def N68_0 : Nrm := { slots := [.tmp 2, .tmp 3, .tmp 4, .tmp 5, .tmp 6], items := [2, 3, 4] }
noncomputable def B68_0 : Code := bodyIn 0 (loopsIn B68)
def N68 : Nrms := [(0, N68_0)]
theorem ok68 : FnOk Try.prog 68 Try.f68 30 B68 R68 := ⟨by kernel_rfl, by kernel_rfl, by kernel_rfl, by kernel_rfl, by decide +kernel⟩

noncomputable def B69 : Code := (Try.f69.body.getD .skip)
def S69 : Sig := { ps := [.val], rs := [.val] }
def R69 : List ResultVar := [.cell 2 30]
def K69 : List Nat := [0, 2]
def N69 : Nrms := []
theorem ok69 : FnOk Try.prog 69 Try.f69 6 B69 R69 := ⟨by kernel_rfl, by kernel_rfl, by kernel_rfl, by kernel_rfl, by decide +kernel⟩

noncomputable def B70 : Code := (Try.f70.body.getD .skip)
def S70 : Sig := { ps := [.val], rs := [.val] }
def R70 : List ResultVar := [.tmp 2]
def K70 : List Nat := [0, 2, 8]
theorem ok70 : FnOk Try.prog 70 Try.f70 9 B70 R70 := ⟨by kernel_rfl, by kernel_rfl, by kernel_rfl, by kernel_rfl, by decide +kernel⟩

noncomputable def B71 : Code := (Try.f71.body.getD .skip)
def S71 : Sig := { ps := [.val], rs := [.val] }
def R71 : List ResultVar := [.cell 2 30]
def K71 : List Nat := [1, 2]
def N71 : Nrms := []
theorem ok71 : FnOk Try.prog 71 Try.f71 7 B71 R71 := ⟨by kernel_rfl, by kernel_rfl, by kernel_rfl, by kernel_rfl, by decide +kernel⟩

noncomputable def B72 : Code := (Try.f72.body.getD .skip)
def R72 : List ResultVar := [.tmp 4, .tmp 5]
def K72 : List Nat := [0, 1, 4, 5, 6, 7, 8, 9, 10, 11, 12, 14, 18, 19, 20, 27, 37, 65, 66, 67, 68, 86, 87, 88, 89, 97]
noncomputable def B72_6 : Code := bodyIn 6 (loopsIn B72)
noncomputable def B72_4 : Code := bodyIn 4 (loopsIn B72)
noncomputable def B72_2 : Code := bodyIn 2 (loopsIn B72)
noncomputable def B72_0 : Code := bodyIn 0 (loopsIn B72)
theorem ok72 : FnOk Try.prog 72 Try.f72 100 B72 R72 := ⟨by kernel_rfl, by kernel_rfl, by kernel_rfl, by kernel_rfl, by decide +kernel⟩

noncomputable def B73 : Code := (Try.f73.body.getD .skip)
def S73 : Sig := { ps := [.view (.one .u8) 32, .view (.one .u8) 32, .val], rs := [.fresh (.one .u8) 32, .val] }
def R73 : List ResultVar := [.tmp 6, .tmp 7]
def K73 : List Nat := [0, 1, 2, 6, 7, 8, 9, 10, 11, 12, 14, 26, 42, 43, 44, 73, 74, 75, 76, 81]
noncomputable def B73_4 : Code := bodyIn 4 (loopsIn B73)
noncomputable def B73_2 : Code := bodyIn 2 (loopsIn B73)
noncomputable def B73_0 : Code := bodyIn 0 (loopsIn B73)
theorem ok73 : FnOk Try.prog 73 Try.f73 84 B73 R73 := ⟨by kernel_rfl, by kernel_rfl, by kernel_rfl, by kernel_rfl, by decide +kernel⟩

noncomputable def B74 : Code := (Try.f74.body.getD .skip)
def R74 : List ResultVar := []
def K74 : List Nat := [0, 1, 2, 3, 8, 9, 10, 11, 12, 13, 14, 15, 16, 17, 18, 23, 29, 35, 50, 68, 72, 87, 113]
noncomputable def B74_0 : Code := bodyIn 0 (loopsIn B74)
theorem ok74 : FnOk Try.prog 74 Try.f74 134 B74 R74 := ⟨by kernel_rfl, by kernel_rfl, by kernel_rfl, by kernel_rfl, by decide +kernel⟩

noncomputable def B75 : Code := (Try.f75.body.getD .skip)
def S75 : Sig := { ps := [.val], rs := [.val] }
def R75 : List ResultVar := [.tmp 2]
def K75 : List Nat := [0, 2]
theorem ok75 : FnOk Try.prog 75 Try.f75 8 B75 R75 := ⟨by kernel_rfl, by kernel_rfl, by kernel_rfl, by kernel_rfl, by decide +kernel⟩

noncomputable def B76 : Code := (Try.f76.body.getD .skip)
def S76 : Sig := { ps := [.view (.one .u8) 32, .view (.one .u8) 32], rs := [.val, .val] }
def R76 : List ResultVar := [.cell 4 30, .tmp 5]
def K76 : List Nat := [0, 1, 4, 5, 6, 7, 12, 15, 16, 17]
def N76_0 : Nrm := { slots := [.tmp 0, .tmp 1, .tmp 4, .tmp 6, .tmp 15, .tmp 16], items := [0, 1, 4, 6] }
noncomputable def B76_0 : Code := bodyIn 0 (loopsIn B76)
def N76 : Nrms := [(0, N76_0)]
theorem ok76 : FnOk Try.prog 76 Try.f76 35 B76 R76 := ⟨by kernel_rfl, by kernel_rfl, by kernel_rfl, by kernel_rfl, by decide +kernel⟩

noncomputable def B77 : Code := (Try.f77.body.getD .skip)
def S77 : Sig := { ps := [.view (.one .u8) 32], rs := [.fresh (.one .u8) 32, .val, .val] }
def R77 : List ResultVar := [.tmp 2, .tmp 3, .tmp 4]
def K77 : List Nat := [0, 2, 3, 4, 5, 6, 7, 8, 9, 10, 15, 16, 17, 18, 23, 39, 40, 41]
def N77_2 : Nrm := { slots := [.tmp 0, .tmp 5, .tmp 6, .tmp 39, .tmp 40], items := [0, 6, 13] }
def N77_0 : Nrm := { slots := [.tmp 0, .tmp 5, .tmp 6, .tmp 15, .tmp 16, .tmp 17], items := [0, 6, 13] }
noncomputable def B77_2 : Code := bodyIn 2 (loopsIn B77)
noncomputable def B77_0 : Code := bodyIn 0 (loopsIn B77)
def N77 : Nrms := [(2, N77_2), (0, N77_0)]
theorem ok77 : FnOk Try.prog 77 Try.f77 65 B77 R77 := ⟨by kernel_rfl, by kernel_rfl, by kernel_rfl, by kernel_rfl, by decide +kernel⟩

noncomputable def B79 : Code := (Try.f79.body.getD .skip)
def S79 : Sig := { ps := [.val], rs := [.val] }
def R79 : List ResultVar := [.cell 2 96]
def K79 : List Nat := [1, 2, 3, 4, 12]
def N79 : Nrms := []
theorem ok79 : FnOk Try.prog 79 Try.f79 15 B79 R79 := ⟨by kernel_rfl, by kernel_rfl, by kernel_rfl, by kernel_rfl, by decide +kernel⟩

noncomputable def B80 : Code := (Try.f80.body.getD .skip)
def S80 : Sig := { ps := [.val], rs := [.val] }
def R80 : List ResultVar := [.cell 2 96]
def K80 : List Nat := [1, 2, 3, 4, 5, 6]
def N80_0 : Nrm := { slots := [.tmp 1, .tmp 2, .tmp 3, .tmp 5], items := [1, 2, 3] }
noncomputable def B80_0 : Code := bodyIn 0 (loopsIn B80)
def N80 : Nrms := [(0, N80_0)]
theorem ok80 : FnOk Try.prog 80 Try.f80 24 B80 R80 := ⟨by kernel_rfl, by kernel_rfl, by kernel_rfl, by kernel_rfl, by decide +kernel⟩

noncomputable def B82 : Code := (Try.f82.body.getD .skip)
def S82 : Sig := { ps := [.val, .val], rs := [.val] }
def R82 : List ResultVar := [.cell 4 96]
def K82 : List Nat := [2, 3, 4, 5, 6, 7, 8, 9, 10, 11, 12, 14, 15, 17, 18, 59]
def N82_4 : Nrm := { slots := [.tmp 2, .tmp 3, .tmp 4, .tmp 5, .tmp 6, .tmp 8, .tmp 10, .tmp 11, .tmp 14], items := [2, 3, 4, 5, 6] }
def N82_2 : Nrm := { slots := [.tmp 2, .tmp 3, .tmp 4, .tmp 5, .tmp 6, .tmp 7, .tmp 8, .tmp 14, .tmp 17], items := [2, 3, 4, 5, 6] }
def N82_0 : Nrm := { slots := [.tmp 2, .tmp 3, .tmp 4, .tmp 5, .tmp 6, .tmp 14], items := [2, 3, 4, 5, 6] }
noncomputable def B82_4 : Code := bodyIn 4 (loopsIn B82)
noncomputable def B82_2 : Code := bodyIn 2 (loopsIn B82)
noncomputable def B82_0 : Code := bodyIn 0 (loopsIn B82)
def N82 : Nrms := [(4, N82_4), (2, N82_2), (0, N82_0)]
theorem ok82 : FnOk Try.prog 82 Try.f82 101 B82 R82 := ⟨by kernel_rfl, by kernel_rfl, by kernel_rfl, by kernel_rfl, by decide +kernel⟩

noncomputable def B83 : Code := (Try.f83.body.getD .skip)
def S83 : Sig := { ps := [], rs := [.val] }
def R83 : List ResultVar := [.cell 0 96]
def K83 : List Nat := [0]
def N83 : Nrms := []
theorem ok83 : FnOk Try.prog 83 Try.f83 2 B83 R83 := ⟨by kernel_rfl, by kernel_rfl, by kernel_rfl, by kernel_rfl, by decide +kernel⟩

noncomputable def B84 : Code := (Try.f84.body.getD .skip)
def S84 : Sig := { ps := [.val], rs := [.val] }
def R84 : List ResultVar := [.cell 2 30]
def K84 : List Nat := [1, 2, 3, 8]
def N84 : Nrms := []
theorem ok84 : FnOk Try.prog 84 Try.f84 14 B84 R84 := ⟨by kernel_rfl, by kernel_rfl, by kernel_rfl, by kernel_rfl, by decide +kernel⟩

noncomputable def B85 : Code := (Try.f85.body.getD .skip)
def S85 : Sig := { ps := [.val], rs := [.val] }
def R85 : List ResultVar := [.tmp 2]
def K85 : List Nat := [1, 2]
def N85 : Nrms := []
theorem ok85 : FnOk Try.prog 85 Try.f85 7 B85 R85 := ⟨by kernel_rfl, by kernel_rfl, by kernel_rfl, by kernel_rfl, by decide +kernel⟩

noncomputable def B86 : Code := (Try.f86.body.getD .skip)
def S86 : Sig := { ps := [.val, .view (.one .u8) 1], rs := [.val] }
def R86 : List ResultVar := [.cell 4 30]
def K86 : List Nat := [1, 2, 4, 5, 6, 7, 8, 16, 20, 34]
def N86_2 : Nrm := { slots := [.tmp 1, .tmp 4, .tmp 5, .tmp 6, .tmp 7, .tmp 8], items := [1, 4, 5, 6] }
def N86_0 : Nrm := { slots := [.tmp 1, .tmp 4, .tmp 5, .tmp 6, .tmp 7], items := [1, 4, 5, 6] }
noncomputable def B86_2 : Code := bodyIn 2 (loopsIn B86)
noncomputable def B86_0 : Code := bodyIn 0 (loopsIn B86)
def N86 : Nrms := [(2, N86_2), (0, N86_0)]
theorem ok86 : FnOk Try.prog 86 Try.f86 40 B86 R86 := ⟨by kernel_rfl, by kernel_rfl, by kernel_rfl, by kernel_rfl, by decide +kernel⟩

noncomputable def B87 : Code := (Try.f87.body.getD .skip)
def S87 : Sig := { ps := [.val], rs := [.fresh (.one .u8) 1] }
def R87 : List ResultVar := [.tmp 2]
def K87 : List Nat := [0, 2, 3]
def N87 : Nrms := []
theorem ok87 : FnOk Try.prog 87 Try.f87 10 B87 R87 := ⟨by kernel_rfl, by kernel_rfl, by kernel_rfl, by kernel_rfl, by decide +kernel⟩

noncomputable def B88 : Code := (Try.f88.body.getD .skip)
def S88 : Sig := { ps := [.val], rs := [.val] }
def R88 : List ResultVar := [.tmp 2]
def K88 : List Nat := [1, 2]
def N88 : Nrms := []
theorem ok88 : FnOk Try.prog 88 Try.f88 7 B88 R88 := ⟨by kernel_rfl, by kernel_rfl, by kernel_rfl, by kernel_rfl, by decide +kernel⟩

noncomputable def B89 : Code := (Try.f89.body.getD .skip)
def R89 : List ResultVar := []
def K89 : List Nat := [0, 1, 2, 6, 8, 9, 10, 11, 27, 28, 29, 48, 49, 50, 54, 67, 68, 69]
noncomputable def B89_4 : Code := bodyIn 4 (loopsIn B89)
noncomputable def B89_2 : Code := bodyIn 2 (loopsIn B89)
noncomputable def B89_0 : Code := bodyIn 0 (loopsIn B89)
theorem ok89 : FnOk Try.prog 89 Try.f89 95 B89 R89 := ⟨by kernel_rfl, by kernel_rfl, by kernel_rfl, by kernel_rfl, by decide +kernel⟩

noncomputable def B90 : Code := (Try.f90.body.getD .skip)
def S90 : Sig := { ps := [.view (.one .u8) 32], rs := [.fresh (.one .u8) 32] }
def R90 : List ResultVar := [.tmp 2]
def K90 : List Nat := [0, 2, 4]
theorem ok90 : FnOk Try.prog 90 Try.f90 8 B90 R90 := ⟨by kernel_rfl, by kernel_rfl, by kernel_rfl, by kernel_rfl, by decide +kernel⟩

noncomputable def B91 : Code := (Try.f91.body.getD .skip)
def R91 : List ResultVar := []
def K91 : List Nat := [0, 1, 2, 6, 7, 12, 30]
noncomputable def B91_2 : Code := bodyIn 2 (loopsIn B91)
noncomputable def B91_0 : Code := bodyIn 0 (loopsIn B91)
theorem ok91 : FnOk Try.prog 91 Try.f91 49 B91 R91 := ⟨by kernel_rfl, by kernel_rfl, by kernel_rfl, by kernel_rfl, by decide +kernel⟩

noncomputable def B97 : Code := (Try.f97.body.getD .skip)
def S97 : Sig := { ps := [.val, .val], rs := [.val] }
def R97 : List ResultVar := [.tmp 4]
def K97 : List Nat := [0, 1, 4]
theorem ok97 : FnOk Try.prog 97 Try.f97 17 B97 R97 := ⟨by kernel_rfl, by kernel_rfl, by kernel_rfl, by kernel_rfl, by decide +kernel⟩

noncomputable def B101 : Code := (Try.f101.body.getD .skip)
def S101 : Sig := { ps := [.val], rs := [.val] }
def R101 : List ResultVar := [.tmp 2]
def K101 : List Nat := [0, 2, 4, 8, 14]
theorem ok101 : FnOk Try.prog 101 Try.f101 25 B101 R101 := ⟨by kernel_rfl, by kernel_rfl, by kernel_rfl, by kernel_rfl, by decide +kernel⟩

noncomputable def B102 : Code := (Try.f102.body.getD .skip)
def S102 : Sig := { ps := [.val, .val, .val, .val], rs := [.val, .val] }
def R102 : List ResultVar := [.tmp 8, .tmp 9]
def K102 : List Nat := [0, 1, 2, 3, 8, 9, 10, 11, 12]
def N102 : Nrms := []
theorem ok102 : FnOk Try.prog 102 Try.f102 38 B102 R102 := ⟨by kernel_rfl, by kernel_rfl, by kernel_rfl, by kernel_rfl, by decide +kernel⟩

noncomputable def B108 : Code := (Try.f108.body.getD .skip)
def S108 : Sig := { ps := [.val], rs := [.val] }
def R108 : List ResultVar := [.tmp 2]
def K108 : List Nat := [0, 2]
theorem ok108 : FnOk Try.prog 108 Try.f108 6 B108 R108 := ⟨by kernel_rfl, by kernel_rfl, by kernel_rfl, by kernel_rfl, by decide +kernel⟩

noncomputable def B109 : Code := (Try.f109.body.getD .skip)
def S109 : Sig := { ps := [.val, .val], rs := [.val, .val] }
def R109 : List ResultVar := [.tmp 4, .tmp 5]
def K109 : List Nat := [0, 1, 4, 5, 6, 7, 8, 9, 10, 11, 12, 13]
def N109 : Nrms := []
theorem ok109 : FnOk Try.prog 109 Try.f109 51 B109 R109 := ⟨by kernel_rfl, by kernel_rfl, by kernel_rfl, by kernel_rfl, by decide +kernel⟩

end Go.Proofs.Ytogcijgklnfjjaa

namespace Go.Proofs.Ytogcijgklnfjjaa
open Go Go.Eng
set_option maxRecDepth 100000
set_option linter.unusedVariables false

def f18_2_sh : Shp := { n := 40, lo := 1, slots := [(0, .one (.fix (At.own 0))), (3, .one (.int IntKind.i64)), (4, .one (.int IntKind.i64))], items := [(0, .view (RK.one IntKind.i64) 1)] }
def f18_2_ex1 : Shp := { n := 40, lo := 1, slots := [(2, .one (.int IntKind.i64)), (39, .one (.bool)), (28, .one (.bool)), (0, .one (.fix (At.own 0))), (3, .one (.int IntKind.i64)), (4, .one (.int IntKind.i64))], items := [(0, .view (RK.one IntKind.i64) 1)] }
def f18_2_ex2 : Shp := { n := 40, lo := 1, slots := [(28, .one (.bool)), (0, .one (.fix (At.own 0))), (3, .one (.int IntKind.i64)), (4, .one (.int IntKind.i64))], items := [(0, .view (RK.one IntKind.i64) 1)] }
noncomputable def f18_2_st {R : Type} (N : Nat) (self : Int → Int → List Int → Option R) (k1 : Int → Bool → Bool → Int → Int → List Int → Option R) (k2 : Bool → Int → Int → List Int → Option R) (x1 : Int) (x2 : Int) (x3 : List Int) : Option R :=
 bif Decidable.decide (x2 < x1) then
 bif Decidable.decide (0 ≤ x2) && Decidable.decide (x2 < nI (rowLen 1 x3)) then
 bif Decidable.decide (0 ≤ x1) && Decidable.decide (x1 < nI (rowLen 1 x3)) then
 bif x3.getD (mulE x2.toNat 1) 0 == x3.getD (mulE x1.toNat 1) 0 then k1 5 (x3.getD (mulE x2.toNat 1) 0 == x3.getD (mulE x1.toNat 1) 0) (Decidable.decide (x2 < x1)) x1 x2 x3
 else
 let v0 : Int := IntKind.i64.wrap (x2 + 1);
 self x1 v0 x3
 else Option.none
 else Option.none
else k2 (Decidable.decide (x2 < x1)) x1 x2 x3
noncomputable def f18_2_lp {R : Type} (N : Nat) (k1 : Int → Bool → Bool → Int → Int → List Int → Option R) (k2 : Bool → Int → Int → List Int → Option R) : Nat → Int → Int → List Int → Option R
 | 0, _, _, _ => none
 | n + 1, x1, x2, x3 => f18_2_st N (f18_2_lp N k1 k2 n) k1 k2 x1 x2 x3
noncomputable def f18_2_F (N : Nat) : (R : Type) → List Leaf → (X → AS → Option R) → Option R := fun _ ls K => match ls with
 | [.i x1, .i x2, .l x3] => f18_2_lp N (fun y1 y2 y3 y4 y5 y6 => K (X.ret) (fill f18_2_ex1 [.i y1, .b y2, .b y3, .i y4, .i y5, .l y6])) (fun y1 y2 y3 y4 => K (X.normal) (fill f18_2_ex2 [.b y1, .i y2, .i y3, .l y4])) N x1 x2 x3
 | _ => none
def f18_0_sh : Shp := { n := 40, lo := 1, slots := [(0, .one (.fix (At.own 0))), (3, .one (.int IntKind.i64))], items := [(0, .view (RK.one IntKind.i64) 1)] }
def f18_0_ex1 : Shp := { n := 40, lo := 1, slots := [(2, .one (.int IntKind.i64)), (25, .one (.bool)), (11, .one (.bool)), (0, .one (.fix (At.own 0))), (3, .one (.int IntKind.i64))], items := [(0, .view (RK.one IntKind.i64) 1)] }
def f18_0_ex2 : Shp := { n := 40, lo := 1, slots := [(2, .one (.int IntKind.i64)), (39, .one (.bool)), (28, .one (.bool)), (0, .one (.fix (At.own 0))), (3, .one (.int IntKind.i64)), (4, .one (.int IntKind.i64))], items := [(0, .view (RK.one IntKind.i64) 1)] }
def f18_0_ex3 : Shp := { n := 40, lo := 1, slots := [(11, .one (.bool)), (0, .one (.fix (At.own 0))), (3, .one (.int IntKind.i64))], items := [(0, .view (RK.one IntKind.i64) 1)] }
noncomputable def f18_0_st {R : Type} (N : Nat) (self : Int → List Int → Option R) (k1 : Int → Bool → Bool → Int → List Int → Option R) (k2 : Int → Bool → Bool → Int → Int → List Int → Option R) (k3 : Bool → Int → List Int → Option R) (x1 : Int) (x2 : List Int) : Option R :=
 bif Decidable.decide (x1 < nI (rowLen 1 x2)) then
 bif Decidable.decide (0 ≤ x1) && Decidable.decide (x1 < nI (rowLen 1 x2)) then
 bif Decidable.decide (x2.getD (mulE x1.toNat 1) 0 < 1) then k1 4 Bool.true (Decidable.decide (x1 < nI (rowLen 1 x2))) x1 x2
 else
 bif Decidable.decide (0 ≤ x1) && Decidable.decide (x1 < nI (rowLen 1 x2)) then
 let v0 : Bool := bif Bool.false then Bool.true else Decidable.decide (x2.getD (mulE x1.toNat 1) 0 > 255);
 bif v0 then k1 4 v0 (Decidable.decide (x1 < nI (rowLen 1 x2))) x1 x2
 else
 f18_2_lp N (fun w1_1 w1_2 w1_3 w1_4 w1_5 w1_6 => k2 w1_1 w1_2 w1_3 w1_4 w1_5 w1_6)
 (fun w2_1 w2_2 w2_3 w2_4 =>
 let v3 : Int := IntKind.i64.wrap (w2_2 + 1);
 self v3 w2_4)
 N x1 0 x2
 else Option.none
 else Option.none
else k3 (Decidable.decide (x1 < nI (rowLen 1 x2))) x1 x2
noncomputable def f18_0_lp {R : Type} (N : Nat) (k1 : Int → Bool → Bool → Int → List Int → Option R) (k2 : Int → Bool → Bool → Int → Int → List Int → Option R) (k3 : Bool → Int → List Int → Option R) : Nat → Int → List Int → Option R
 | 0, _, _ => none
 | n + 1, x1, x2 => f18_0_st N (f18_0_lp N k1 k2 k3 n) k1 k2 k3 x1 x2
noncomputable def f18_0_F (N : Nat) : (R : Type) → List Leaf → (X → AS → Option R) → Option R := fun _ ls K => match ls with
 | [.i x1, .l x2] => f18_0_lp N (fun y1 y2 y3 y4 y5 => K (X.ret) (fill f18_0_ex1 [.i y1, .b y2, .b y3, .i y4, .l y5])) (fun y1 y2 y3 y4 y5 y6 => K (X.ret) (fill f18_0_ex2 [.i y1, .b y2, .b y3, .i y4, .i y5, .l y6])) (fun y1 y2 y3 => K (X.normal) (fill f18_0_ex3 [.b y1, .i y2, .l y3])) N x1 x2
 | _ => none
noncomputable def f18_raw {R : Type} (N : Nat) (xs : List Int) (k : List DV → Option R) : Option R :=
 bif nI (rowLen 1 xs) == 0 then k [DV.v (SV.one (At.int IntKind.i64 8))] else f18_0_lp N (fun w0_1 w0_2 w0_3 w0_4 w0_5 => k [DV.v (SV.one (At.int IntKind.i64 w0_1))]) (fun w1_1 w1_2 w1_3 w1_4 w1_5 w1_6 => k [DV.v (SV.one (At.int IntKind.i64 w1_1))]) (fun w2_1 w2_2 w2_3 => k [DV.v (SV.one (At.int IntKind.i64 0))]) N 0 xs


noncomputable def E18 (N : Nat) : Env := { Θ := Th, Γ := [], K := K18, ν := N18, fuel := 0, lp := [(0, mkL N18_0 f18_0_sh (f18_0_F N)), (2, mkL N18_2 f18_2_sh (f18_2_F N))] }

theorem f18_2_st_eq {R : Type} (N : Nat) (K : X → AS → Option R) (n : Nat) (x1 : Int) (x2 : Int) (x3 : List Int) : roundsOf (E18 N) N18_2 2 B18_2 K (n + 1) (fill f18_2_sh [.i x1, .i x2, .l x3]) = f18_2_st N (fun x1 x2 x3 => roundsOf (E18 N) N18_2 2 B18_2 K n (fill f18_2_sh [.i x1, .i x2, .l x3])) (fun y1 y2 y3 y4 y5 y6 => K (X.ret) (fill f18_2_ex1 [.i y1, .b y2, .b y3, .i y4, .i y5, .l y6])) (fun y1 y2 y3 y4 => K (X.normal) (fill f18_2_ex2 [.b y1, .i y2, .i y3, .l y4])) x1 x2 x3 := by kernel_rfl
theorem f18_2_lp_eq {R : Type} (N : Nat) (K : X → AS → Option R) : ∀ (n : Nat) (x1 : Int) (x2 : Int) (x3 : List Int), roundsOf (E18 N) N18_2 2 B18_2 K n (fill f18_2_sh [.i x1, .i x2, .l x3]) = f18_2_lp N (fun y1 y2 y3 y4 y5 y6 => K (X.ret) (fill f18_2_ex1 [.i y1, .b y2, .b y3, .i y4, .i y5, .l y6])) (fun y1 y2 y3 y4 => K (X.normal) (fill f18_2_ex2 [.b y1, .i y2, .i y3, .l y4])) n x1 x2 x3
  | 0, _, _, _ => rfl
  | n + 1, x1, x2, x3 => by
    rw [f18_2_st_eq, f18_2_lp, show (fun x1 x2 x3 => roundsOf (E18 N) N18_2 2 B18_2 K n (fill f18_2_sh [.i x1, .i x2, .l x3])) = f18_2_lp N (fun y1 y2 y3 y4 y5 y6 => K (X.ret) (fill f18_2_ex1 [.i y1, .b y2, .b y3, .i y4, .i y5, .l y6])) (fun y1 y2 y3 y4 => K (X.normal) (fill f18_2_ex2 [.b y1, .i y2, .i y3, .l y4])) n from by funext x1 x2 x3; exact f18_2_lp_eq N K n x1 x2 x3]
theorem f18_2_ok (N : Nat) (hlp : LoopsOk Try.prog (E18 N).lp B18_2) (hΓ : CtxOk Try.prog (E18 N).Γ) : LoopOk Try.prog (mkL N18_2 f18_2_sh (f18_2_F N)) 2 B18_2 := by
  refine loopOk_of (E := E18 N) thOk hΓ mixed hlp ?_
  intro R ls K r h
  unfold f18_2_F at h
  split at h
  · exact ⟨N, by rw [f18_2_lp_eq]; exact h⟩
  · cases h
theorem f18_0_st_eq {R : Type} (N : Nat) (K : X → AS → Option R) (n : Nat) (x1 : Int) (x2 : List Int) : roundsOf (E18 N) N18_0 0 B18_0 K (n + 1) (fill f18_0_sh [.i x1, .l x2]) = f18_0_st N (fun x1 x2 => roundsOf (E18 N) N18_0 0 B18_0 K n (fill f18_0_sh [.i x1, .l x2])) (fun y1 y2 y3 y4 y5 => K (X.ret) (fill f18_0_ex1 [.i y1, .b y2, .b y3, .i y4, .l y5])) (fun y1 y2 y3 y4 y5 y6 => K (X.ret) (fill f18_0_ex2 [.i y1, .b y2, .b y3, .i y4, .i y5, .l y6])) (fun y1 y2 y3 => K (X.normal) (fill f18_0_ex3 [.b y1, .i y2, .l y3])) x1 x2 := by kernel_rfl
theorem f18_0_lp_eq {R : Type} (N : Nat) (K : X → AS → Option R) : ∀ (n : Nat) (x1 : Int) (x2 : List Int), roundsOf (E18 N) N18_0 0 B18_0 K n (fill f18_0_sh [.i x1, .l x2]) = f18_0_lp N (fun y1 y2 y3 y4 y5 => K (X.ret) (fill f18_0_ex1 [.i y1, .b y2, .b y3, .i y4, .l y5])) (fun y1 y2 y3 y4 y5 y6 => K (X.ret) (fill f18_0_ex2 [.i y1, .b y2, .b y3, .i y4, .i y5, .l y6])) (fun y1 y2 y3 => K (X.normal) (fill f18_0_ex3 [.b y1, .i y2, .l y3])) n x1 x2
  | 0, _, _ => rfl
  | n + 1, x1, x2 => by
    rw [f18_0_st_eq, f18_0_lp, show (fun x1 x2 => roundsOf (E18 N) N18_0 0 B18_0 K n (fill f18_0_sh [.i x1, .l x2])) = f18_0_lp N (fun y1 y2 y3 y4 y5 => K (X.ret) (fill f18_0_ex1 [.i y1, .b y2, .b y3, .i y4, .l y5])) (fun y1 y2 y3 y4 y5 y6 => K (X.ret) (fill f18_0_ex2 [.i y1, .b y2, .b y3, .i y4, .i y5, .l y6])) (fun y1 y2 y3 => K (X.normal) (fill f18_0_ex3 [.b y1, .i y2, .l y3])) n from by funext x1 x2; exact f18_0_lp_eq N K n x1 x2]
theorem f18_0_ok (N : Nat) (hlp : LoopsOk Try.prog (E18 N).lp B18_0) (hΓ : CtxOk Try.prog (E18 N).Γ) : LoopOk Try.prog (mkL N18_0 f18_0_sh (f18_0_F N)) 0 B18_0 := by
  refine loopOk_of (E := E18 N) thOk hΓ mixed hlp ?_
  intro R ls K r h
  unfold f18_0_F at h
  split at h
  · exact ⟨N, by rw [f18_0_lp_eq]; exact h⟩
  · cases h

theorem lok18_2 (N : Nat) (hΓ : CtxOk Try.prog []) : LoopOk Try.prog (mkL N18_2 f18_2_sh (f18_2_F N)) 2 B18_2 := f18_2_ok N (loopsOk_of (l := []) (by kernel_rfl) trivial) hΓ
theorem lok18_0 (N : Nat) (hΓ : CtxOk Try.prog []) : LoopOk Try.prog (mkL N18_0 f18_0_sh (f18_0_F N)) 0 B18_0 := f18_0_ok N (loopsOk_of (l := [(2, B18_2)]) (by kernel_rfl) (allOk_cons (L := mkL N18_2 f18_2_sh (f18_2_F N)) rfl (lok18_2 N hΓ) trivial)) hΓ
theorem f18_contract (N : Nat) (hΓ : CtxOk Try.prog []) : Contract Try.prog 18 { sig := S18, impl := fun _ ds k => call (E18 N) S18 40 B18 R18 ds k } :=
  call_contract (E := E18 N) thOk hΓ mixed ok18.look ok18.body ok18.n ok18.rv ok18.name rfl (by decide) (loopsOk_of (l := [(0, B18_0), (2, B18_2)]) (by kernel_rfl) (allOk_cons (L := mkL N18_0 f18_0_sh (f18_0_F N)) rfl (lok18_0 N hΓ) (allOk_cons (L := mkL N18_2 f18_2_sh (f18_2_F N)) rfl (lok18_2 N hΓ) trivial)))
theorem f18_raw_eq {R : Type} (N : Nat) (xs : List Int) (k : List DV → Option R) : call (E18 N) S18 40 B18 R18 [.lst (.one .i64) 1 xs] k = f18_raw N xs k := by kernel_rfl
end Go.Proofs.Ytogcijgklnfjjaa

namespace Go.Proofs.Ytogcijgklnfjjaa
open Go Go.Eng
set_option maxRecDepth 100000
set_option linter.unusedVariables false

def f11_0_sh : Shp := { n := 26, lo := 2, slots := [(0, .one (.fix (At.own 0))), (1, .one (.fix (At.own 1))), (5, .one (.int IntKind.i64))], items := [(0, .view (RK.one IntKind.u8) 32), (1, .view (RK.one IntKind.u8) 32)] }
def f11_0_ex1 : Shp := { n := 26, lo := 2, slots := [(4, .one (.bool)), (25, .one (.bool)), (14, .one (.bool)), (0, .one (.fix (At.own 0))), (1, .one (.fix (At.own 1))), (5, .one (.int IntKind.i64))], items := [(0, .view (RK.one IntKind.u8) 32), (1, .view (RK.one IntKind.u8) 32)] }
def f11_0_ex2 : Shp := { n := 26, lo := 2, slots := [(14, .one (.bool)), (0, .one (.fix (At.own 0))), (1, .one (.fix (At.own 1))), (5, .one (.int IntKind.i64))], items := [(0, .view (RK.one IntKind.u8) 32), (1, .view (RK.one IntKind.u8) 32)] }
noncomputable def f11_0_st {R : Type} (N : Nat) (self : Int → List Int → List Int → Option R) (k1 : Bool → Bool → Bool → Int → List Int → List Int → Option R) (k2 : Bool → Int → List Int → List Int → Option R) (x1 : Int) (x2 : List Int) (x3 : List Int) : Option R :=
 bif Decidable.decide (x1 < nI (rowLen 32 x2)) then
 bif Decidable.decide (0 ≤ x1) && Decidable.decide (x1 < nI (rowLen 32 x2)) then
 bif Decidable.decide (0 ≤ x1) && Decidable.decide (x1 < nI (rowLen 32 x3)) then
 bif !Decidable.decide (List.take 32 (List.drop (mulE x1.toNat 32) x2) = List.take 32 (List.drop (mulE x1.toNat 32) x3)) then k1 Bool.false (!Decidable.decide (List.take 32 (List.drop (mulE x1.toNat 32) x2) = List.take 32 (List.drop (mulE x1.toNat 32) x3))) (Decidable.decide (x1 < nI (rowLen 32 x2))) x1 x2 x3
 else
 let v0 : Int := IntKind.i64.wrap (x1 + 1);
 self v0 x2 x3
 else Option.none
 else Option.none
else k2 (Decidable.decide (x1 < nI (rowLen 32 x2))) x1 x2 x3
noncomputable def f11_0_lp {R : Type} (N : Nat) (k1 : Bool → Bool → Bool → Int → List Int → List Int → Option R) (k2 : Bool → Int → List Int → List Int → Option R) : Nat → Int → List Int → List Int → Option R
 | 0, _, _, _ => none
 | n + 1, x1, x2, x3 => f11_0_st N (f11_0_lp N k1 k2 n) k1 k2 x1 x2 x3
noncomputable def f11_0_F (N : Nat) : (R : Type) → List Leaf → (X → AS → Option R) → Option R := fun _ ls K => match ls with
 | [.i x1, .l x2, .l x3] => f11_0_lp N (fun y1 y2 y3 y4 y5 y6 => K (X.ret) (fill f11_0_ex1 [.b y1, .b y2, .b y3, .i y4, .l y5, .l y6])) (fun y1 y2 y3 y4 => K (X.normal) (fill f11_0_ex2 [.b y1, .i y2, .l y3, .l y4])) N x1 x2 x3
 | _ => none
noncomputable def f11_raw {R : Type} (N : Nat) (xs : List Int) (ys : List Int) (k : List DV → Option R) : Option R :=
 bif nI (rowLen 32 xs) != nI (rowLen 32 ys) then k [DV.v (SV.one (At.bool Bool.false))] else f11_0_lp N (fun w0_1 w0_2 w0_3 w0_4 w0_5 w0_6 => k [DV.v (SV.one (At.bool w0_1))]) (fun w1_1 w1_2 w1_3 w1_4 => k [DV.v (SV.one (At.bool Bool.true))]) N 0 xs ys


noncomputable def E11 (N : Nat) : Env := { Θ := Th, Γ := [], K := K11, ν := N11, fuel := 0, lp := [(0, mkL N11_0 f11_0_sh (f11_0_F N))] }

theorem f11_0_st_eq {R : Type} (N : Nat) (K : X → AS → Option R) (n : Nat) (x1 : Int) (x2 : List Int) (x3 : List Int) : roundsOf (E11 N) N11_0 0 B11_0 K (n + 1) (fill f11_0_sh [.i x1, .l x2, .l x3]) = f11_0_st N (fun x1 x2 x3 => roundsOf (E11 N) N11_0 0 B11_0 K n (fill f11_0_sh [.i x1, .l x2, .l x3])) (fun y1 y2 y3 y4 y5 y6 => K (X.ret) (fill f11_0_ex1 [.b y1, .b y2, .b y3, .i y4, .l y5, .l y6])) (fun y1 y2 y3 y4 => K (X.normal) (fill f11_0_ex2 [.b y1, .i y2, .l y3, .l y4])) x1 x2 x3 := by kernel_rfl
theorem f11_0_lp_eq {R : Type} (N : Nat) (K : X → AS → Option R) : ∀ (n : Nat) (x1 : Int) (x2 : List Int) (x3 : List Int), roundsOf (E11 N) N11_0 0 B11_0 K n (fill f11_0_sh [.i x1, .l x2, .l x3]) = f11_0_lp N (fun y1 y2 y3 y4 y5 y6 => K (X.ret) (fill f11_0_ex1 [.b y1, .b y2, .b y3, .i y4, .l y5, .l y6])) (fun y1 y2 y3 y4 => K (X.normal) (fill f11_0_ex2 [.b y1, .i y2, .l y3, .l y4])) n x1 x2 x3
  | 0, _, _, _ => rfl
  | n + 1, x1, x2, x3 => by
    rw [f11_0_st_eq, f11_0_lp, show (fun x1 x2 x3 => roundsOf (E11 N) N11_0 0 B11_0 K n (fill f11_0_sh [.i x1, .l x2, .l x3])) = f11_0_lp N (fun y1 y2 y3 y4 y5 y6 => K (X.ret) (fill f11_0_ex1 [.b y1, .b y2, .b y3, .i y4, .l y5, .l y6])) (fun y1 y2 y3 y4 => K (X.normal) (fill f11_0_ex2 [.b y1, .i y2, .l y3, .l y4])) n from by funext x1 x2 x3; exact f11_0_lp_eq N K n x1 x2 x3]
theorem f11_0_ok (N : Nat) (hlp : LoopsOk Try.prog (E11 N).lp B11_0) (hΓ : CtxOk Try.prog (E11 N).Γ) : LoopOk Try.prog (mkL N11_0 f11_0_sh (f11_0_F N)) 0 B11_0 := by
  refine loopOk_of (E := E11 N) thOk hΓ mixed hlp ?_
  intro R ls K r h
  unfold f11_0_F at h
  split at h
  · exact ⟨N, by rw [f11_0_lp_eq]; exact h⟩
  · cases h

theorem lok11_0 (N : Nat) (hΓ : CtxOk Try.prog []) : LoopOk Try.prog (mkL N11_0 f11_0_sh (f11_0_F N)) 0 B11_0 := f11_0_ok N (loopsOk_of (l := []) (by kernel_rfl) trivial) hΓ
theorem f11_contract (N : Nat) (hΓ : CtxOk Try.prog []) : Contract Try.prog 11 { sig := S11, impl := fun _ ds k => call (E11 N) S11 26 B11 R11 ds k } :=
  call_contract (E := E11 N) thOk hΓ mixed ok11.look ok11.body ok11.n ok11.rv ok11.name rfl (by decide) (loopsOk_of (l := [(0, B11_0)]) (by kernel_rfl) (allOk_cons (L := mkL N11_0 f11_0_sh (f11_0_F N)) rfl (lok11_0 N hΓ) trivial))
theorem f11_raw_eq {R : Type} (N : Nat) (xs : List Int) (ys : List Int) (k : List DV → Option R) : call (E11 N) S11 26 B11 R11 [.lst (.one .u8) 32 xs, .lst (.one .u8) 32 ys] k = f11_raw N xs ys k := by kernel_rfl
end Go.Proofs.Ytogcijgklnfjjaa

namespace Go.Proofs.Ytogcijgklnfjjaa
open Go Go.Eng
set_option maxRecDepth 100000
set_option linter.unusedVariables false

noncomputable def f109_raw {R : Type} (N : Nat) (x : Int) (y : Int) (k : List DV → Option R) : Option R :=
 let v0 : Int := shrI IntKind.u64 x 32;
let v1 : Int := shrI IntKind.u64 y 32;
let v2 : Int := IntKind.u64.wrap (v0 * v1);
let v3 : Int := andI IntKind.u64 y 4294967295;
let v4 : Int := IntKind.u64.wrap (v0 * v3);
let v5 : Int := andI IntKind.u64 x 4294967295;
let v6 : Int := IntKind.u64.wrap (v5 * v3);
let v7 : Int := shrI IntKind.u64 v6 32;
let v8 : Int := IntKind.u64.wrap (v4 + v7);
let v9 : Int := shrI IntKind.u64 v8 32;
let v10 : Int := IntKind.u64.wrap (v2 + v9);
let v11 : Int := andI IntKind.u64 v8 4294967295;
let v12 : Int := IntKind.u64.wrap (v5 * v1);
let v13 : Int := IntKind.u64.wrap (v11 + v12);
let v14 : Int := shrI IntKind.u64 v13 32;
let v15 : Int := IntKind.u64.wrap (v10 + v14);
let v16 : Int := IntKind.u64.wrap (x * y);
k [DV.v (SV.one (At.int IntKind.u64 v15)), DV.v (SV.one (At.int IntKind.u64 v16))]


noncomputable def E109 (N : Nat) : Env := { Θ := Th, Γ := [], K := K109, ν := N109, fuel := 0, lp := [] }


theorem f109_contract (N : Nat) (hΓ : CtxOk Try.prog []) : Contract Try.prog 109 { sig := S109, impl := fun _ ds k => call (E109 N) S109 51 B109 R109 ds k } :=
  call_contract (E := E109 N) thOk hΓ mixed ok109.look ok109.body ok109.n ok109.rv ok109.name rfl (by decide) (loopsOk_of (l := []) (by kernel_rfl) trivial)
theorem f109_raw_eq {R : Type} (N : Nat) (x : Int) (y : Int) (k : List DV → Option R) : call (E109 N) S109 51 B109 R109 [.v (.one (.int .u64 x)), .v (.one (.int .u64 y))] k = f109_raw N x y k := by kernel_rfl
end Go.Proofs.Ytogcijgklnfjjaa

namespace Go.Proofs.Ytogcijgklnfjjaa
open Go Go.Eng
set_option maxRecDepth 100000
set_option linter.unusedVariables false

noncomputable def f57_raw {R : Type} (N : Nat)  (k : List DV → Option R) : Option R :=
 let v0 : List Int := (List.replicate 4 0).set 0 6346243789798364141;
let v1 : List Int := v0.set 1 1503914060200516822;
let v2 : List Int := v1.set 2 0;
let v3 : List Int := v2.set 3 1152921504606846976;
k [DV.v (SV.one (At.ints IntKind.u64 4 v3))]


noncomputable def E57 (N : Nat) : Env := { Θ := Th, Γ := [], K := K57, ν := N57, fuel := 0, lp := [] }


theorem f57_contract (N : Nat) (hΓ : CtxOk Try.prog []) : Contract Try.prog 57 { sig := S57, impl := fun _ ds k => call (E57 N) S57 2 B57 R57 ds k } :=
  call_contract (E := E57 N) thOk hΓ mixed ok57.look ok57.body ok57.n ok57.rv ok57.name rfl (by decide) (loopsOk_of (l := []) (by kernel_rfl) trivial)
theorem f57_raw_eq {R : Type} (N : Nat)  (k : List DV → Option R) : call (E57 N) S57 2 B57 R57 [] k = f57_raw N  k := by kernel_rfl
end Go.Proofs.Ytogcijgklnfjjaa

namespace Go.Proofs.Ytogcijgklnfjjaa
open Go Go.Eng
set_option maxRecDepth 100000
set_option linter.unusedVariables false

noncomputable def f83_raw {R : Type} (N : Nat)  (k : List DV → Option R) : Option R :=
 let v0 : List Int := (List.replicate 4 0).set 0 11819153939886771969;
let v1 : List Int := v0.set 1 14991950615390032711;
let v2 : List Int := v1.set 2 14910419812499177061;
let v3 : List Int := v2.set 3 259310039853996605;
k [DV.v (SV.one (At.ints IntKind.u64 4 v3))]


noncomputable def E83 (N : Nat) : Env := { Θ := Th, Γ := [], K := K83, ν := N83, fuel := 0, lp := [] }


theorem f83_contract (N : Nat) (hΓ : CtxOk Try.prog []) : Contract Try.prog 83 { sig := S83, impl := fun _ ds k => call (E83 N) S83 2 B83 R83 ds k } :=
  call_contract (E := E83 N) thOk hΓ mixed ok83.look ok83.body ok83.n ok83.rv ok83.name rfl (by decide) (loopsOk_of (l := []) (by kernel_rfl) trivial)
theorem f83_raw_eq {R : Type} (N : Nat)  (k : List DV → Option R) : call (E83 N) S83 2 B83 R83 [] k = f83_raw N  k := by kernel_rfl
end Go.Proofs.Ytogcijgklnfjjaa

namespace Go.Eng
open Go

def atV : At → Value
  | .int k n => .int k n
  | _ => undef

theorem contract_ext {P : Program} {g : Nat} {fn : Func} {ent : Array Value → Sem Value} {impl : (R : Type) → List DV → (List DV → Option R) → Option R} {np nr : Nat}
    (hf : P.funcs[g]? = some fn) (hname : (fn.name == "runtime.NumGoroutine") = false) (hb : fn.body.isNone = true) (hn : Extern.findNext fn = none) (he : Extern.find fn = some ent)
    (h : ∀ R ds (k : List DV → Option R) r, impl R ds k = some r → ∃ (xs : List At) (os : List At), xs.length = np ∧ os.length = nr ∧ ds = xs.map (fun a => DV.v (.one a)) ∧ k (os.map fun a => DV.v (.one a)) = some r ∧
      (∀ a ∈ xs, ∃ k n, a = .int k n) ∧ (∀ a ∈ os, ∃ k n, a = .int k n) ∧
      ∀ w, (ent (xs.map atV).toArray).run P w = .ok (resVal (os.map atV)) w) :
    Contract P g { sig := { ps := List.replicate np .val, rs := List.replicate nr .val }, impl := impl } := by
  intro R ds k r hk
  obtain ⟨xs, os, l1, l2, rfl, h2, h3, h4, h5⟩ := h R ds k r hk
  refine ⟨_, h2, fun w vs ℓ τ hA => .inr ⟨resVal (os.map atV), ?_, ?_⟩⟩
  · have hv : vs = xs.map atV := by
      apply List.ext_getElem?
      intro i
      have lv := hA.lenV
      simp only [List.length_replicate] at lv
      by_cases hi : i < np
      · have hx : xs[i]? = some (xs[i]'(by omega)) := List.getElem?_eq_getElem (by omega)
        have hvi : vs[i]? = some (vs[i]'(by omega)) := List.getElem?_eq_getElem (by omega)
        have := hA.each i .val _ _ (by simp [hi]) (by rw [List.getElem?_map, hx]; rfl) hvi
        obtain ⟨kk, nn, e⟩ := h3 _ (List.getElem_mem (show i < xs.length by omega))
        rw [hvi, List.getElem?_map, hx]
        simp only [Option.map_some, e] at this ⊢
        obtain ⟨_, hr, _⟩ := this
        simp only [RelSV, RelAt, List.cons.injEq, and_true] at hr
        rw [hr]; rfl
      · rw [List.getElem?_eq_none (by omega), List.getElem?_eq_none (by rw [List.length_map]; omega)]
    rw [run_callFunc_extern hf hname hb hn he, hv, h5]
    rfl
  · have hmut : ∀ (m i : Nat) (ys : List At), MutRel w ℓ i (List.replicate m .val) (ys.map fun a => DV.v (.one a)) [] ∨ ys.length ≠ m := by
      intro m
      induction m with
      | zero =>
        intro i ys
        cases ys with
        | nil => exact .inl rfl
        | cons _ _ => right; simp
      | succ m ih =>
        intro i ys
        cases ys with
        | nil => right; simp
        | cons y ys =>
          rcases ih (i + 1) ys with h | h
          · exact .inl h
          · right; simpa using h
    refine ⟨⟨os.map atV, os.map (fun a => DV.v (.one a)), [], fun _ => none, fun _ => 0, rfl, by simp, by simp [l2], by simp [l2], ?_, ?_, ?_, ?_⟩, Nat.le_refl _, fun _ _ _ => rfl, rfl, rfl⟩
    · intro j rm o x h1 h6 h7
      simp only [List.getElem?_replicate] at h1
      split at h1
      · rename_i hj
        injection h1 with h1; subst h1
        have ho : os[j]? = some (os[j]'(by omega)) := List.getElem?_eq_getElem (by omega)
        obtain ⟨kk, nn, e⟩ := h4 _ (List.getElem_mem (show j < os.length by omega))
        rw [List.getElem?_map, ho, Option.map_some] at h6 h7
        injection h6 with h6; injection h7 with h7; subst h6; subst h7
        rw [e]
        exact ⟨rfl, rfl, rfl⟩
      · cases h1
    · intro j q hq; cases hq
    · intro i j q r _ hq; cases hq
    · rcases hmut np 0 xs with h | h
      · exact h
      · exact absurd l1 h

def addLo (x y c : Int) : Int := (x.toNat + y.toNat + c.toNat : Nat) % 18446744073709551616
def addHi (x y c : Int) : Int := (x.toNat + y.toNat + c.toNat : Nat) / 18446744073709551616

def IAdd64 : (R : Type) → List DV → (List DV → Option R) → Option R := fun _ ds k => match ds with
  | [.v (.one (.int .u64 x)), .v (.one (.int .u64 y)), .v (.one (.int .u64 c))] => cond (decide (c = 0) || decide (c = 1)) (k [.v (.one (.int .u64 (addLo x y c))), .v (.one (.int .u64 (addHi x y c)))]) none
  | _ => none

theorem contract_add64 {P : Program} {g : Nat} {fn : Func} (hf : P.funcs[g]? = some fn) (hname : (fn.name == "runtime.NumGoroutine") = false) (hb : fn.body.isNone = true) (hn : Extern.findNext fn = none) (he : Extern.find fn = some add64Entry) :
    Contract P g { sig := { ps := [.val, .val, .val], rs := [.val, .val] }, impl := IAdd64 } := by
  refine contract_ext (np := 3) (nr := 2) hf hname hb hn he ?_
  intro R ds k r h
  unfold IAdd64 at h
  split at h
  · rename_i x y c
    cases hc : (decide (c = 0) || decide (c = 1)) with
    | false => rw [hc] at h; cases h
    | true =>
      rw [hc] at h
      rw [Bool.or_eq_true, decide_eq_true_eq, decide_eq_true_eq] at hc
      refine ⟨[.int .u64 x, .int .u64 y, .int .u64 c], [.int .u64 (addLo x y c), .int .u64 (addHi x y c)], rfl, rfl, rfl, h, by simp, by simp, fun w => ?_⟩
      rcases hc with rfl | rfl <;> rfl
  · cases h


def sub64Entry : Array Value → Sem Value := fun args => do
  let (x, y, b) ← Extern.MathBitsCarry.three "Sub64" args
  pure (Extern.MathBitsCarry.pair ((x + Extern.MathBitsCarry.m64 - y - b) % Extern.MathBitsCarry.m64) (if x < y + b then 1 else 0))

def subLo (x y c : Int) : Int := ((x.toNat + 18446744073709551616 - y.toNat - c.toNat) % 18446744073709551616 : Nat)
def subHi (x y c : Int) : Int := cond (Nat.blt x.toNat (y.toNat + c.toNat)) 1 0

def ISub64 : (R : Type) → List DV → (List DV → Option R) → Option R := fun _ ds k => match ds with
  | [.v (.one (.int .u64 x)), .v (.one (.int .u64 y)), .v (.one (.int .u64 c))] => cond (decide (c = 0) || decide (c = 1)) (k [.v (.one (.int .u64 (subLo x y c))), .v (.one (.int .u64 (subHi x y c)))]) none
  | _ => none

theorem contract_sub64 {P : Program} {g : Nat} {fn : Func} (hf : P.funcs[g]? = some fn) (hname : (fn.name == "runtime.NumGoroutine") = false) (hb : fn.body.isNone = true) (hn : Extern.findNext fn = none) (he : Extern.find fn = some sub64Entry) :
    Contract P g { sig := { ps := [.val, .val, .val], rs := [.val, .val] }, impl := ISub64 } := by
  refine contract_ext (np := 3) (nr := 2) hf hname hb hn he ?_
  intro R ds k r h
  unfold ISub64 at h
  split at h
  · rename_i x y c
    cases hc : (decide (c = 0) || decide (c = 1)) with
    | false => rw [hc] at h; cases h
    | true =>
      rw [hc] at h
      rw [Bool.or_eq_true, decide_eq_true_eq, decide_eq_true_eq] at hc
      refine ⟨[.int .u64 x, .int .u64 y, .int .u64 c], [.int .u64 (subLo x y c), .int .u64 (subHi x y c)], rfl, rfl, rfl, h, by simp, by simp, fun w => ?_⟩
      have e : ∀ c : Int, (if x.toNat < y.toNat + c.toNat then 1 else 0 : Nat) = (subHi x y c).toNat ∧ 0 ≤ subHi x y c := by
        intro c
        unfold subHi
        by_cases hb : x.toNat < y.toNat + c.toNat
        · rw [if_pos hb, show Nat.blt x.toNat (y.toNat + c.toNat) = true from Nat.ble_eq_true_of_le hb]; exact ⟨rfl, by decide⟩
        · rw [if_neg hb]
          have : Nat.blt x.toNat (y.toNat + c.toNat) = false := by
            cases h : Nat.blt x.toNat (y.toNat + c.toNat)
            · rfl
            · exact absurd (Nat.le_of_ble_eq_true h) hb
          rw [this]; exact ⟨rfl, by decide⟩
      have fin : ∀ c : Int, (sub64Entry #[.int .u64 x, .int .u64 y, .int .u64 c]).run P w = .ok (Extern.MathBitsCarry.pair ((x.toNat + Extern.MathBitsCarry.m64 - y.toNat - c.toNat) % Extern.MathBitsCarry.m64) (if x.toNat < y.toNat + c.toNat then 1 else 0)) w →
          (sub64Entry #[.int .u64 x, .int .u64 y, .int .u64 c]).run P w = .ok (.tuple #[.int .u64 (subLo x y c), .int .u64 (subHi x y c)]) w := by
        intro c h
        rw [h]
        unfold Extern.MathBitsCarry.pair
        obtain ⟨e1, e2⟩ := e c
        rw [e1, show Int.ofNat (subHi x y c).toNat = subHi x y c from Int.toNat_of_nonneg e2]
        rfl
      rcases hc with rfl | rfl
      · exact fin 0 rfl
      · exact fin 1 rfl
  · cases h

end Go.Eng

namespace Go.Proofs.Ytogcijgklnfjjaa
open Go Go.Eng
set_option maxRecDepth 100000

def ansI (o : Option (List DV)) (i : Nat) : Int := match o with
  | some l => match l[i]? with | some (.v (.one (.int _ n))) => n | _ => 0
  | none => 0
def ansL (o : Option (List DV)) (i : Nat) : List Int := match o with
  | some l => match l[i]? with | some (.v (.one (.ints _ _ n))) => n | _ => []
  | none => []

noncomputable def mulHi (x y : Int) : Int := ansI (f109_raw 0 x y some) 0
def mulLo (x y : Int) : Int := IntKind.u64.wrap (x * y)

noncomputable def I109 : (R : Type) → List DV → (List DV → Option R) → Option R := fun _ ds k => match ds with
  | [.v (.one (.int .u64 x)), .v (.one (.int .u64 y))] => k [.v (.one (.int .u64 (mulHi x y))), .v (.one (.int .u64 (mulLo x y)))]
  | _ => none

theorem c109 : Contract Try.prog 109 { sig := S109, impl := I109 } := by
  refine Contract.refine fun R ds k r h => ⟨_, f109_contract 0 ctxOk_nil, ?_⟩
  unfold I109 at h
  split at h
  · rw [f109_raw_eq]; exact h
  · cases h

def SV33 : Sig := { ps := [.val, .val, .val], rs := [.val, .val] }
theorem c78 : Contract Try.prog 78 { sig := SV33, impl := IAdd64 } :=
  contract_add64 Try.func78 (by decide +kernel) (by kernel_rfl) (by kernel_rfl) (by kernel_rfl)
theorem c81 : Contract Try.prog 81 { sig := SV33, impl := ISub64 } :=
  contract_sub64 Try.func81 (by decide +kernel) (by kernel_rfl) (by kernel_rfl) (by kernel_rfl)

def ordW : List Int := [6346243789798364141, 1503914060200516822, 0, 1152921504606846976]
def radW : List Int := [11819153939886771969, 14991950615390032711, 14910419812499177061, 259310039853996605]
def I57 : (R : Type) → List DV → (List DV → Option R) → Option R := fun _ ds k => match ds with
  | [] => k [.v (.one (.ints .u64 4 ordW))]
  | _ => none
theorem c57 : Contract Try.prog 57 { sig := S57, impl := I57 } := by
  refine Contract.refine fun R ds k r h => ⟨_, f57_contract 0 ctxOk_nil, ?_⟩
  unfold I57 at h
  split at h
  · rw [f57_raw_eq]; exact h
  · cases h
def I83 : (R : Type) → List DV → (List DV → Option R) → Option R := fun _ ds k => match ds with
  | [] => k [.v (.one (.ints .u64 4 radW))]
  | _ => none
theorem c83 : Contract Try.prog 83 { sig := S83, impl := I83 } := by
  refine Contract.refine fun R ds k r h => ⟨_, f83_contract 0 ctxOk_nil, ?_⟩
  unfold I83 at h
  split at h
  · rw [f83_raw_eq]; exact h
  · cases h

noncomputable def G102 : Ctx := [(109, { sig := S109, impl := I109 }), (78, { sig := SV33, impl := IAdd64 })]
theorem G102_ok : CtxOk Try.prog G102 := ctxOk_cons ok109 rfl c109 (ctxOk_ext rfl c78 ctxOk_nil)
def G56 : Ctx := [(81, { sig := SV33, impl := ISub64 })]
theorem G56_ok : CtxOk Try.prog G56 := ctxOk_ext rfl c81 ctxOk_nil
end Go.Proofs.Ytogcijgklnfjjaa

namespace Go.Proofs.Ytogcijgklnfjjaa
open Go Go.Eng
set_option maxRecDepth 100000
set_option linter.unusedVariables false

noncomputable def f102_raw {R : Type} (N : Nat) (x : Int) (y : Int) (z : Int) (c : Int) (k : List DV → Option R) : Option R :=
 let v0 : Int := IntKind.u64.wrap (mulHi x y + addHi (mulLo x y) z 0);
let v1 : Int := IntKind.u64.wrap (v0 + addHi (addLo (mulLo x y) z 0) c 0);
k [DV.v (SV.one (At.int IntKind.u64 v1)), DV.v (SV.one (At.int IntKind.u64 (addLo (addLo (mulLo x y) z 0) c 0)))]


noncomputable def E102 (N : Nat) : Env := { Θ := Th, Γ := G102, K := K102, ν := N102, fuel := 0, lp := [] }


theorem f102_contract (N : Nat) (hΓ : CtxOk Try.prog G102) : Contract Try.prog 102 { sig := S102, impl := fun _ ds k => call (E102 N) S102 38 B102 R102 ds k } :=
  call_contract (E := E102 N) thOk hΓ mixed ok102.look ok102.body ok102.n ok102.rv ok102.name rfl (by decide) (loopsOk_of (l := []) (by kernel_rfl) trivial)
theorem f102_raw_eq {R : Type} (N : Nat) (x : Int) (y : Int) (z : Int) (c : Int) (k : List DV → Option R) : call (E102 N) S102 38 B102 R102 [.v (.one (.int .u64 x)), .v (.one (.int .u64 y)), .v (.one (.int .u64 z)), .v (.one (.int .u64 c))] k = f102_raw N x y z c k := by kernel_rfl
end Go.Proofs.Ytogcijgklnfjjaa

namespace Go.Proofs.Ytogcijgklnfjjaa
open Go Go.Eng
set_option maxRecDepth 100000
set_option linter.unusedVariables false

noncomputable def f56_raw {R : Type} (N : Nat) (x : List Int) (y : List Int) (k : List DV → Option R) : Option R :=
 bif Decidable.decide (subHi (x.getD (mulE (Int.toNat 0) 1) 0) (y.getD (mulE (Int.toNat 0) 1) 0) 0 = 0) || Decidable.decide (subHi (x.getD (mulE (Int.toNat 0) 1) 0) (y.getD (mulE (Int.toNat 0) 1) 0) 0 = 1) then
 let v0 : Int := IntKind.i64.wrap (0 + 1);
 bif Decidable.decide (subHi (x.getD (mulE v0.toNat 1) 0) (y.getD (mulE v0.toNat 1) 0) (subHi (x.getD (mulE (Int.toNat 0) 1) 0) (y.getD (mulE (Int.toNat 0) 1) 0) 0) = 0) || Decidable.decide (subHi (x.getD (mulE v0.toNat 1) 0) (y.getD (mulE v0.toNat 1) 0) (subHi (x.getD (mulE (Int.toNat 0) 1) 0) (y.getD (mulE (Int.toNat 0) 1) 0) 0) = 1) then
 let v1 : Int := IntKind.i64.wrap (v0 + 1);
 bif Decidable.decide (subHi (x.getD (mulE v1.toNat 1) 0) (y.getD (mulE v1.toNat 1) 0) (subHi (x.getD (mulE v0.toNat 1) 0) (y.getD (mulE v0.toNat 1) 0) (subHi (x.getD (mulE (Int.toNat 0) 1) 0) (y.getD (mulE (Int.toNat 0) 1) 0) 0)) = 0) || Decidable.decide (subHi (x.getD (mulE v1.toNat 1) 0) (y.getD (mulE v1.toNat 1) 0) (subHi (x.getD (mulE v0.toNat 1) 0) (y.getD (mulE v0.toNat 1) 0) (subHi (x.getD (mulE (Int.toNat 0) 1) 0) (y.getD (mulE (Int.toNat 0) 1) 0) 0)) = 1) then
 let v2 : List Int := (List.replicate 4 0).set (mulE (Int.toNat 0) 1) (subLo (x.getD (mulE (Int.toNat 0) 1) 0) (y.getD (mulE (Int.toNat 0) 1) 0) 0);
 let v3 : List Int := v2.set (mulE v0.toNat 1) (subLo (x.getD (mulE v0.toNat 1) 0) (y.getD (mulE v0.toNat 1) 0) (subHi (x.getD (mulE (Int.toNat 0) 1) 0) (y.getD (mulE (Int.toNat 0) 1) 0) 0));
 let v4 : List Int := v3.set (mulE v1.toNat 1) (subLo (x.getD (mulE v1.toNat 1) 0) (y.getD (mulE v1.toNat 1) 0) (subHi (x.getD (mulE v0.toNat 1) 0) (y.getD (mulE v0.toNat 1) 0) (subHi (x.getD (mulE (Int.toNat 0) 1) 0) (y.getD (mulE (Int.toNat 0) 1) 0) 0)));
 let v5 : Int := IntKind.i64.wrap (v1 + 1);
 let v6 : List Int := v4.set (mulE v5.toNat 1) (subLo (x.getD (mulE v5.toNat 1) 0) (y.getD (mulE v5.toNat 1) 0) (subHi (x.getD (mulE v1.toNat 1) 0) (y.getD (mulE v1.toNat 1) 0) (subHi (x.getD (mulE v0.toNat 1) 0) (y.getD (mulE v0.toNat 1) 0) (subHi (x.getD (mulE (Int.toNat 0) 1) 0) (y.getD (mulE (Int.toNat 0) 1) 0) 0))));
 k [DV.v (SV.one (At.ints IntKind.u64 4 v6)), DV.v (SV.one (At.int IntKind.u64 (subHi (x.getD (mulE v5.toNat 1) 0) (y.getD (mulE v5.toNat 1) 0) (subHi (x.getD (mulE v1.toNat 1) 0) (y.getD (mulE v1.toNat 1) 0) (subHi (x.getD (mulE v0.toNat 1) 0) (y.getD (mulE v0.toNat 1) 0) (subHi (x.getD (mulE (Int.toNat 0) 1) 0) (y.getD (mulE (Int.toNat 0) 1) 0) 0))))))]
 else Option.none
 else Option.none
else Option.none


noncomputable def E56 (N : Nat) : Env := { Θ := Th, Γ := G56, K := K56, ν := N56, fuel := 20, lp := [] }


theorem f56_contract (N : Nat) (hΓ : CtxOk Try.prog G56) : Contract Try.prog 56 { sig := S56, impl := fun _ ds k => call (E56 N) S56 28 B56 R56 ds k } :=
  call_contract (E := E56 N) thOk hΓ mixed ok56.look ok56.body ok56.n ok56.rv ok56.name rfl (by decide) (loopsOk_of (l := [(0, B56_0)]) (by kernel_rfl) (allOk_skip rfl trivial))
theorem f56_raw_eq {R : Type} (N : Nat) (x : List Int) (y : List Int) (k : List DV → Option R) : call (E56 N) S56 28 B56 R56 [.v (.one (.ints .u64 4 x)), .v (.one (.ints .u64 4 y))] k = f56_raw N x y k := by kernel_rfl
end Go.Proofs.Ytogcijgklnfjjaa

namespace Go.Proofs.Ytogcijgklnfjjaa
open Go Go.Eng
set_option maxRecDepth 100000
set_option linter.unusedVariables false

noncomputable def f53_raw {R : Type} (N : Nat) (x : List Int) (k : List DV → Option R) : Option R :=
 let v0 : Int := IntKind.i64.wrap (Int.tdiv 0 8);
let v1 : Int := IntKind.i64.wrap (8 * Int.tmod 0 8);
let v2 : Int := shrI IntKind.u64 (x.getD (mulE v0.toNat 1) 0) v1;
let v3 : Int := IntKind.u8.wrap v2;
let v4 : List Int := (List.replicate 32 0).set (mulE (Int.toNat 0) 1) v3;
let v5 : Int := IntKind.i64.wrap (0 + 1);
let v6 : Int := IntKind.i64.wrap (v5.tdiv 8);
let v7 : Int := IntKind.i64.wrap (8 * v5.tmod 8);
let v8 : Int := shrI IntKind.u64 (x.getD (mulE v6.toNat 1) 0) v7;
let v9 : Int := IntKind.u8.wrap v8;
let v10 : List Int := v4.set (mulE v5.toNat 1) v9;
let v11 : Int := IntKind.i64.wrap (v5 + 1);
let v12 : Int := IntKind.i64.wrap (v11.tdiv 8);
let v13 : Int := IntKind.i64.wrap (8 * v11.tmod 8);
let v14 : Int := shrI IntKind.u64 (x.getD (mulE v12.toNat 1) 0) v13;
let v15 : Int := IntKind.u8.wrap v14;
let v16 : List Int := v10.set (mulE v11.toNat 1) v15;
let v17 : Int := IntKind.i64.wrap (v11 + 1);
let v18 : Int := IntKind.i64.wrap (v17.tdiv 8);
let v19 : Int := IntKind.i64.wrap (8 * v17.tmod 8);
let v20 : Int := shrI IntKind.u64 (x.getD (mulE v18.toNat 1) 0) v19;
let v21 : Int := IntKind.u8.wrap v20;
let v22 : List Int := v16.set (mulE v17.toNat 1) v21;
let v23 : Int := IntKind.i64.wrap (v17 + 1);
let v24 : Int := IntKind.i64.wrap (v23.tdiv 8);
let v25 : Int := IntKind.i64.wrap (8 * v23.tmod 8);
let v26 : Int := shrI IntKind.u64 (x.getD (mulE v24.toNat 1) 0) v25;
let v27 : Int := IntKind.u8.wrap v26;
let v28 : List Int := v22.set (mulE v23.toNat 1) v27;
let v29 : Int := IntKind.i64.wrap (v23 + 1);
let v30 : Int := IntKind.i64.wrap (v29.tdiv 8);
let v31 : Int := IntKind.i64.wrap (8 * v29.tmod 8);
let v32 : Int := shrI IntKind.u64 (x.getD (mulE v30.toNat 1) 0) v31;
let v33 : Int := IntKind.u8.wrap v32;
let v34 : List Int := v28.set (mulE v29.toNat 1) v33;
let v35 : Int := IntKind.i64.wrap (v29 + 1);
let v36 : Int := IntKind.i64.wrap (v35.tdiv 8);
let v37 : Int := IntKind.i64.wrap (8 * v35.tmod 8);
let v38 : Int := shrI IntKind.u64 (x.getD (mulE v36.toNat 1) 0) v37;
let v39 : Int := IntKind.u8.wrap v38;
let v40 : List Int := v34.set (mulE v35.toNat 1) v39;
let v41 : Int := IntKind.i64.wrap (v35 + 1);
let v42 : Int := IntKind.i64.wrap (v41.tdiv 8);
let v43 : Int := IntKind.i64.wrap (8 * v41.tmod 8);
let v44 : Int := shrI IntKind.u64 (x.getD (mulE v42.toNat 1) 0) v43;
let v45 : Int := IntKind.u8.wrap v44;
let v46 : List Int := v40.set (mulE v41.toNat 1) v45;
let v47 : Int := IntKind.i64.wrap (v41 + 1);
let v48 : Int := IntKind.i64.wrap (v47.tdiv 8);
let v49 : Int := IntKind.i64.wrap (8 * v47.tmod 8);
let v50 : Int := shrI IntKind.u64 (x.getD (mulE v48.toNat 1) 0) v49;
let v51 : Int := IntKind.u8.wrap v50;
let v52 : List Int := v46.set (mulE v47.toNat 1) v51;
let v53 : Int := IntKind.i64.wrap (v47 + 1);
let v54 : Int := IntKind.i64.wrap (v53.tdiv 8);
let v55 : Int := IntKind.i64.wrap (8 * v53.tmod 8);
let v56 : Int := shrI IntKind.u64 (x.getD (mulE v54.toNat 1) 0) v55;
let v57 : Int := IntKind.u8.wrap v56;
let v58 : List Int := v52.set (mulE v53.toNat 1) v57;
let v59 : Int := IntKind.i64.wrap (v53 + 1);
let v60 : Int := IntKind.i64.wrap (v59.tdiv 8);
let v61 : Int := IntKind.i64.wrap (8 * v59.tmod 8);
let v62 : Int := shrI IntKind.u64 (x.getD (mulE v60.toNat 1) 0) v61;
let v63 : Int := IntKind.u8.wrap v62;
let v64 : List Int := v58.set (mulE v59.toNat 1) v63;
let v65 : Int := IntKind.i64.wrap (v59 + 1);
let v66 : Int := IntKind.i64.wrap (v65.tdiv 8);
let v67 : Int := IntKind.i64.wrap (8 * v65.tmod 8);
let v68 : Int := shrI IntKind.u64 (x.getD (mulE v66.toNat 1) 0) v67;
let v69 : Int := IntKind.u8.wrap v68;
let v70 : List Int := v64.set (mulE v65.toNat 1) v69;
let v71 : Int := IntKind.i64.wrap (v65 + 1);
let v72 : Int := IntKind.i64.wrap (v71.tdiv 8);
let v73 : Int := IntKind.i64.wrap (8 * v71.tmod 8);
let v74 : Int := shrI IntKind.u64 (x.getD (mulE v72.toNat 1) 0) v73;
let v75 : Int := IntKind.u8.wrap v74;
let v76 : List Int := v70.set (mulE v71.toNat 1) v75;
let v77 : Int := IntKind.i64.wrap (v71 + 1);
let v78 : Int := IntKind.i64.wrap (v77.tdiv 8);
let v79 : Int := IntKind.i64.wrap (8 * v77.tmod 8);
let v80 : Int := shrI IntKind.u64 (x.getD (mulE v78.toNat 1) 0) v79;
let v81 : Int := IntKind.u8.wrap v80;
let v82 : List Int := v76.set (mulE v77.toNat 1) v81;
let v83 : Int := IntKind.i64.wrap (v77 + 1);
let v84 : Int := IntKind.i64.wrap (v83.tdiv 8);
let v85 : Int := IntKind.i64.wrap (8 * v83.tmod 8);
let v86 : Int := shrI IntKind.u64 (x.getD (mulE v84.toNat 1) 0) v85;
let v87 : Int := IntKind.u8.wrap v86;
let v88 : List Int := v82.set (mulE v83.toNat 1) v87;
let v89 : Int := IntKind.i64.wrap (v83 + 1);
let v90 : Int := IntKind.i64.wrap (v89.tdiv 8);
let v91 : Int := IntKind.i64.wrap (8 * v89.tmod 8);
let v92 : Int := shrI IntKind.u64 (x.getD (mulE v90.toNat 1) 0) v91;
let v93 : Int := IntKind.u8.wrap v92;
let v94 : List Int := v88.set (mulE v89.toNat 1) v93;
let v95 : Int := IntKind.i64.wrap (v89 + 1);
let v96 : Int := IntKind.i64.wrap (v95.tdiv 8);
let v97 : Int := IntKind.i64.wrap (8 * v95.tmod 8);
let v98 : Int := shrI IntKind.u64 (x.getD (mulE v96.toNat 1) 0) v97;
let v99 : Int := IntKind.u8.wrap v98;
let v100 : List Int := v94.set (mulE v95.toNat 1) v99;
let v101 : Int := IntKind.i64.wrap (v95 + 1);
let v102 : Int := IntKind.i64.wrap (v101.tdiv 8);
let v103 : Int := IntKind.i64.wrap (8 * v101.tmod 8);
let v104 : Int := shrI IntKind.u64 (x.getD (mulE v102.toNat 1) 0) v103;
let v105 : Int := IntKind.u8.wrap v104;
let v106 : List Int := v100.set (mulE v101.toNat 1) v105;
let v107 : Int := IntKind.i64.wrap (v101 + 1);
let v108 : Int := IntKind.i64.wrap (v107.tdiv 8);
let v109 : Int := IntKind.i64.wrap (8 * v107.tmod 8);
let v110 : Int := shrI IntKind.u64 (x.getD (mulE v108.toNat 1) 0) v109;
let v111 : Int := IntKind.u8.wrap v110;
let v112 : List Int := v106.set (mulE v107.toNat 1) v111;
let v113 : Int := IntKind.i64.wrap (v107 + 1);
let v114 : Int := IntKind.i64.wrap (v113.tdiv 8);
let v115 : Int := IntKind.i64.wrap (8 * v113.tmod 8);
let v116 : Int := shrI IntKind.u64 (x.getD (mulE v114.toNat 1) 0) v115;
let v117 : Int := IntKind.u8.wrap v116;
let v118 : List Int := v112.set (mulE v113.toNat 1) v117;
let v119 : Int := IntKind.i64.wrap (v113 + 1);
let v120 : Int := IntKind.i64.wrap (v119.tdiv 8);
let v121 : Int := IntKind.i64.wrap (8 * v119.tmod 8);
let v122 : Int := shrI IntKind.u64 (x.getD (mulE v120.toNat 1) 0) v121;
let v123 : Int := IntKind.u8.wrap v122;
let v124 : List Int := v118.set (mulE v119.toNat 1) v123;
let v125 : Int := IntKind.i64.wrap (v119 + 1);
let v126 : Int := IntKind.i64.wrap (v125.tdiv 8);
let v127 : Int := IntKind.i64.wrap (8 * v125.tmod 8);
let v128 : Int := shrI IntKind.u64 (x.getD (mulE v126.toNat 1) 0) v127;
let v129 : Int := IntKind.u8.wrap v128;
let v130 : List Int := v124.set (mulE v125.toNat 1) v129;
let v131 : Int := IntKind.i64.wrap (v125 + 1);
let v132 : Int := IntKind.i64.wrap (v131.tdiv 8);
let v133 : Int := IntKind.i64.wrap (8 * v131.tmod 8);
let v134 : Int := shrI IntKind.u64 (x.getD (mulE v132.toNat 1) 0) v133;
let v135 : Int := IntKind.u8.wrap v134;
let v136 : List Int := v130.set (mulE v131.toNat 1) v135;
let v137 : Int := IntKind.i64.wrap (v131 + 1);
let v138 : Int := IntKind.i64.wrap (v137.tdiv 8);
let v139 : Int := IntKind.i64.wrap (8 * v137.tmod 8);
let v140 : Int := shrI IntKind.u64 (x.getD (mulE v138.toNat 1) 0) v139;
let v141 : Int := IntKind.u8.wrap v140;
let v142 : List Int := v136.set (mulE v137.toNat 1) v141;
let v143 : Int := IntKind.i64.wrap (v137 + 1);
let v144 : Int := IntKind.i64.wrap (v143.tdiv 8);
let v145 : Int := IntKind.i64.wrap (8 * v143.tmod 8);
let v146 : Int := shrI IntKind.u64 (x.getD (mulE v144.toNat 1) 0) v145;
let v147 : Int := IntKind.u8.wrap v146;
let v148 : List Int := v142.set (mulE v143.toNat 1) v147;
let v149 : Int := IntKind.i64.wrap (v143 + 1);
let v150 : Int := IntKind.i64.wrap (v149.tdiv 8);
let v151 : Int := IntKind.i64.wrap (8 * v149.tmod 8);
let v152 : Int := shrI IntKind.u64 (x.getD (mulE v150.toNat 1) 0) v151;
let v153 : Int := IntKind.u8.wrap v152;
let v154 : List Int := v148.set (mulE v149.toNat 1) v153;
let v155 : Int := IntKind.i64.wrap (v149 + 1);
let v156 : Int := IntKind.i64.wrap (v155.tdiv 8);
let v157 : Int := IntKind.i64.wrap (8 * v155.tmod 8);
let v158 : Int := shrI IntKind.u64 (x.getD (mulE v156.toNat 1) 0) v157;
let v159 : Int := IntKind.u8.wrap v158;
let v160 : List Int := v154.set (mulE v155.toNat 1) v159;
let v161 : Int := IntKind.i64.wrap (v155 + 1);
let v162 : Int := IntKind.i64.wrap (v161.tdiv 8);
let v163 : Int := IntKind.i64.wrap (8 * v161.tmod 8);
let v164 : Int := shrI IntKind.u64 (x.getD (mulE v162.toNat 1) 0) v163;
let v165 : Int := IntKind.u8.wrap v164;
let v166 : List Int := v160.set (mulE v161.toNat 1) v165;
let v167 : Int := IntKind.i64.wrap (v161 + 1);
let v168 : Int := IntKind.i64.wrap (v167.tdiv 8);
let v169 : Int := IntKind.i64.wrap (8 * v167.tmod 8);
let v170 : Int := shrI IntKind.u64 (x.getD (mulE v168.toNat 1) 0) v169;
let v171 : Int := IntKind.u8.wrap v170;
let v172 : List Int := v166.set (mulE v167.toNat 1) v171;
let v173 : Int := IntKind.i64.wrap (v167 + 1);
let v174 : Int := IntKind.i64.wrap (v173.tdiv 8);
let v175 : Int := IntKind.i64.wrap (8 * v173.tmod 8);
let v176 : Int := shrI IntKind.u64 (x.getD (mulE v174.toNat 1) 0) v175;
let v177 : Int := IntKind.u8.wrap v176;
let v178 : List Int := v172.set (mulE v173.toNat 1) v177;
let v179 : Int := IntKind.i64.wrap (v173 + 1);
let v180 : Int := IntKind.i64.wrap (v179.tdiv 8);
let v181 : Int := IntKind.i64.wrap (8 * v179.tmod 8);
let v182 : Int := shrI IntKind.u64 (x.getD (mulE v180.toNat 1) 0) v181;
let v183 : Int := IntKind.u8.wrap v182;
let v184 : List Int := v178.set (mulE v179.toNat 1) v183;
let v185 : Int := IntKind.i64.wrap (v179 + 1);
let v186 : Int := IntKind.i64.wrap (v185.tdiv 8);
let v187 : Int := IntKind.i64.wrap (8 * v185.tmod 8);
let v188 : Int := shrI IntKind.u64 (x.getD (mulE v186.toNat 1) 0) v187;
let v189 : Int := IntKind.u8.wrap v188;
let v190 : List Int := v184.set (mulE v185.toNat 1) v189;
k [DV.v (SV.one (At.ints IntKind.u8 32 v190))]


noncomputable def E53 (N : Nat) : Env := { Θ := Th, Γ := [], K := K53, ν := N53, fuel := 60, lp := [] }


theorem f53_contract (N : Nat) (hΓ : CtxOk Try.prog []) : Contract Try.prog 53 { sig := S53, impl := fun _ ds k => call (E53 N) S53 21 B53 R53 ds k } :=
  call_contract (E := E53 N) thOk hΓ mixed ok53.look ok53.body ok53.n ok53.rv ok53.name rfl (by decide) (loopsOk_of (l := [(0, B53_0)]) (by kernel_rfl) (allOk_skip rfl trivial))
theorem f53_raw_eq {R : Type} (N : Nat) (x : List Int) (k : List DV → Option R) : call (E53 N) S53 21 B53 R53 [.v (.one (.ints .u64 4 x))] k = f53_raw N x k := by kernel_rfl
end Go.Proofs.Ytogcijgklnfjjaa

namespace Go.Proofs.Ytogcijgklnfjjaa
open Go Go.Eng
set_option maxRecDepth 100000
set_option linter.unusedVariables false

noncomputable def f80_raw {R : Type} (N : Nat) (x : List Int) (k : List DV → Option R) : Option R :=
 let v0 : Int := IntKind.i64.wrap (Int.tdiv 0 8);
let v1 : Int := IntKind.u64.wrap (x.getD (mulE (Int.toNat 0) 1) 0);
let v2 : Int := IntKind.i64.wrap (8 * Int.tmod 0 8);
let v3 : Int := shlI IntKind.u64 v1 v2;
let v4 : Int := orI IntKind.u64 ((List.replicate 4 0).getD (mulE v0.toNat 1) 0) v3;
let v5 : List Int := (List.replicate 4 0).set (mulE v0.toNat 1) v4;
let v6 : Int := IntKind.i64.wrap (0 + 1);
let v7 : Int := IntKind.i64.wrap (v6.tdiv 8);
let v8 : Int := IntKind.u64.wrap (x.getD (mulE v6.toNat 1) 0);
let v9 : Int := IntKind.i64.wrap (8 * v6.tmod 8);
let v10 : Int := shlI IntKind.u64 v8 v9;
let v11 : Int := orI IntKind.u64 (v5.getD (mulE v7.toNat 1) 0) v10;
let v12 : List Int := v5.set (mulE v7.toNat 1) v11;
let v13 : Int := IntKind.i64.wrap (v6 + 1);
let v14 : Int := IntKind.i64.wrap (v13.tdiv 8);
let v15 : Int := IntKind.u64.wrap (x.getD (mulE v13.toNat 1) 0);
let v16 : Int := IntKind.i64.wrap (8 * v13.tmod 8);
let v17 : Int := shlI IntKind.u64 v15 v16;
let v18 : Int := orI IntKind.u64 (v12.getD (mulE v14.toNat 1) 0) v17;
let v19 : List Int := v12.set (mulE v14.toNat 1) v18;
let v20 : Int := IntKind.i64.wrap (v13 + 1);
let v21 : Int := IntKind.i64.wrap (v20.tdiv 8);
let v22 : Int := IntKind.u64.wrap (x.getD (mulE v20.toNat 1) 0);
let v23 : Int := IntKind.i64.wrap (8 * v20.tmod 8);
let v24 : Int := shlI IntKind.u64 v22 v23;
let v25 : Int := orI IntKind.u64 (v19.getD (mulE v21.toNat 1) 0) v24;
let v26 : List Int := v19.set (mulE v21.toNat 1) v25;
let v27 : Int := IntKind.i64.wrap (v20 + 1);
let v28 : Int := IntKind.i64.wrap (v27.tdiv 8);
let v29 : Int := IntKind.u64.wrap (x.getD (mulE v27.toNat 1) 0);
let v30 : Int := IntKind.i64.wrap (8 * v27.tmod 8);
let v31 : Int := shlI IntKind.u64 v29 v30;
let v32 : Int := orI IntKind.u64 (v26.getD (mulE v28.toNat 1) 0) v31;
let v33 : List Int := v26.set (mulE v28.toNat 1) v32;
let v34 : Int := IntKind.i64.wrap (v27 + 1);
let v35 : Int := IntKind.i64.wrap (v34.tdiv 8);
let v36 : Int := IntKind.u64.wrap (x.getD (mulE v34.toNat 1) 0);
let v37 : Int := IntKind.i64.wrap (8 * v34.tmod 8);
let v38 : Int := shlI IntKind.u64 v36 v37;
let v39 : Int := orI IntKind.u64 (v33.getD (mulE v35.toNat 1) 0) v38;
let v40 : List Int := v33.set (mulE v35.toNat 1) v39;
let v41 : Int := IntKind.i64.wrap (v34 + 1);
let v42 : Int := IntKind.i64.wrap (v41.tdiv 8);
let v43 : Int := IntKind.u64.wrap (x.getD (mulE v41.toNat 1) 0);
let v44 : Int := IntKind.i64.wrap (8 * v41.tmod 8);
let v45 : Int := shlI IntKind.u64 v43 v44;
let v46 : Int := orI IntKind.u64 (v40.getD (mulE v42.toNat 1) 0) v45;
let v47 : List Int := v40.set (mulE v42.toNat 1) v46;
let v48 : Int := IntKind.i64.wrap (v41 + 1);
let v49 : Int := IntKind.i64.wrap (v48.tdiv 8);
let v50 : Int := IntKind.u64.wrap (x.getD (mulE v48.toNat 1) 0);
let v51 : Int := IntKind.i64.wrap (8 * v48.tmod 8);
let v52 : Int := shlI IntKind.u64 v50 v51;
let v53 : Int := orI IntKind.u64 (v47.getD (mulE v49.toNat 1) 0) v52;
let v54 : List Int := v47.set (mulE v49.toNat 1) v53;
let v55 : Int := IntKind.i64.wrap (v48 + 1);
let v56 : Int := IntKind.i64.wrap (v55.tdiv 8);
let v57 : Int := IntKind.u64.wrap (x.getD (mulE v55.toNat 1) 0);
let v58 : Int := IntKind.i64.wrap (8 * v55.tmod 8);
let v59 : Int := shlI IntKind.u64 v57 v58;
let v60 : Int := orI IntKind.u64 (v54.getD (mulE v56.toNat 1) 0) v59;
let v61 : List Int := v54.set (mulE v56.toNat 1) v60;
let v62 : Int := IntKind.i64.wrap (v55 + 1);
let v63 : Int := IntKind.i64.wrap (v62.tdiv 8);
let v64 : Int := IntKind.u64.wrap (x.getD (mulE v62.toNat 1) 0);
let v65 : Int := IntKind.i64.wrap (8 * v62.tmod 8);
let v66 : Int := shlI IntKind.u64 v64 v65;
let v67 : Int := orI IntKind.u64 (v61.getD (mulE v63.toNat 1) 0) v66;
let v68 : List Int := v61.set (mulE v63.toNat 1) v67;
let v69 : Int := IntKind.i64.wrap (v62 + 1);
let v70 : Int := IntKind.i64.wrap (v69.tdiv 8);
let v71 : Int := IntKind.u64.wrap (x.getD (mulE v69.toNat 1) 0);
let v72 : Int := IntKind.i64.wrap (8 * v69.tmod 8);
let v73 : Int := shlI IntKind.u64 v71 v72;
let v74 : Int := orI IntKind.u64 (v68.getD (mulE v70.toNat 1) 0) v73;
let v75 : List Int := v68.set (mulE v70.toNat 1) v74;
let v76 : Int := IntKind.i64.wrap (v69 + 1);
let v77 : Int := IntKind.i64.wrap (v76.tdiv 8);
let v78 : Int := IntKind.u64.wrap (x.getD (mulE v76.toNat 1) 0);
let v79 : Int := IntKind.i64.wrap (8 * v76.tmod 8);
let v80 : Int := shlI IntKind.u64 v78 v79;
let v81 : Int := orI IntKind.u64 (v75.getD (mulE v77.toNat 1) 0) v80;
let v82 : List Int := v75.set (mulE v77.toNat 1) v81;
let v83 : Int := IntKind.i64.wrap (v76 + 1);
let v84 : Int := IntKind.i64.wrap (v83.tdiv 8);
let v85 : Int := IntKind.u64.wrap (x.getD (mulE v83.toNat 1) 0);
let v86 : Int := IntKind.i64.wrap (8 * v83.tmod 8);
let v87 : Int := shlI IntKind.u64 v85 v86;
let v88 : Int := orI IntKind.u64 (v82.getD (mulE v84.toNat 1) 0) v87;
let v89 : List Int := v82.set (mulE v84.toNat 1) v88;
let v90 : Int := IntKind.i64.wrap (v83 + 1);
let v91 : Int := IntKind.i64.wrap (v90.tdiv 8);
let v92 : Int := IntKind.u64.wrap (x.getD (mulE v90.toNat 1) 0);
let v93 : Int := IntKind.i64.wrap (8 * v90.tmod 8);
let v94 : Int := shlI IntKind.u64 v92 v93;
let v95 : Int := orI IntKind.u64 (v89.getD (mulE v91.toNat 1) 0) v94;
let v96 : List Int := v89.set (mulE v91.toNat 1) v95;
let v97 : Int := IntKind.i64.wrap (v90 + 1);
let v98 : Int := IntKind.i64.wrap (v97.tdiv 8);
let v99 : Int := IntKind.u64.wrap (x.getD (mulE v97.toNat 1) 0);
let v100 : Int := IntKind.i64.wrap (8 * v97.tmod 8);
let v101 : Int := shlI IntKind.u64 v99 v100;
let v102 : Int := orI IntKind.u64 (v96.getD (mulE v98.toNat 1) 0) v101;
let v103 : List Int := v96.set (mulE v98.toNat 1) v102;
let v104 : Int := IntKind.i64.wrap (v97 + 1);
let v105 : Int := IntKind.i64.wrap (v104.tdiv 8);
let v106 : Int := IntKind.u64.wrap (x.getD (mulE v104.toNat 1) 0);
let v107 : Int := IntKind.i64.wrap (8 * v104.tmod 8);
let v108 : Int := shlI IntKind.u64 v106 v107;
let v109 : Int := orI IntKind.u64 (v103.getD (mulE v105.toNat 1) 0) v108;
let v110 : List Int := v103.set (mulE v105.toNat 1) v109;
let v111 : Int := IntKind.i64.wrap (v104 + 1);
let v112 : Int := IntKind.i64.wrap (v111.tdiv 8);
let v113 : Int := IntKind.u64.wrap (x.getD (mulE v111.toNat 1) 0);
let v114 : Int := IntKind.i64.wrap (8 * v111.tmod 8);
let v115 : Int := shlI IntKind.u64 v113 v114;
let v116 : Int := orI IntKind.u64 (v110.getD (mulE v112.toNat 1) 0) v115;
let v117 : List Int := v110.set (mulE v112.toNat 1) v116;
let v118 : Int := IntKind.i64.wrap (v111 + 1);
let v119 : Int := IntKind.i64.wrap (v118.tdiv 8);
let v120 : Int := IntKind.u64.wrap (x.getD (mulE v118.toNat 1) 0);
let v121 : Int := IntKind.i64.wrap (8 * v118.tmod 8);
let v122 : Int := shlI IntKind.u64 v120 v121;
let v123 : Int := orI IntKind.u64 (v117.getD (mulE v119.toNat 1) 0) v122;
let v124 : List Int := v117.set (mulE v119.toNat 1) v123;
let v125 : Int := IntKind.i64.wrap (v118 + 1);
let v126 : Int := IntKind.i64.wrap (v125.tdiv 8);
let v127 : Int := IntKind.u64.wrap (x.getD (mulE v125.toNat 1) 0);
let v128 : Int := IntKind.i64.wrap (8 * v125.tmod 8);
let v129 : Int := shlI IntKind.u64 v127 v128;
let v130 : Int := orI IntKind.u64 (v124.getD (mulE v126.toNat 1) 0) v129;
let v131 : List Int := v124.set (mulE v126.toNat 1) v130;
let v132 : Int := IntKind.i64.wrap (v125 + 1);
let v133 : Int := IntKind.i64.wrap (v132.tdiv 8);
let v134 : Int := IntKind.u64.wrap (x.getD (mulE v132.toNat 1) 0);
let v135 : Int := IntKind.i64.wrap (8 * v132.tmod 8);
let v136 : Int := shlI IntKind.u64 v134 v135;
let v137 : Int := orI IntKind.u64 (v131.getD (mulE v133.toNat 1) 0) v136;
let v138 : List Int := v131.set (mulE v133.toNat 1) v137;
let v139 : Int := IntKind.i64.wrap (v132 + 1);
let v140 : Int := IntKind.i64.wrap (v139.tdiv 8);
let v141 : Int := IntKind.u64.wrap (x.getD (mulE v139.toNat 1) 0);
let v142 : Int := IntKind.i64.wrap (8 * v139.tmod 8);
let v143 : Int := shlI IntKind.u64 v141 v142;
let v144 : Int := orI IntKind.u64 (v138.getD (mulE v140.toNat 1) 0) v143;
let v145 : List Int := v138.set (mulE v140.toNat 1) v144;
let v146 : Int := IntKind.i64.wrap (v139 + 1);
let v147 : Int := IntKind.i64.wrap (v146.tdiv 8);
let v148 : Int := IntKind.u64.wrap (x.getD (mulE v146.toNat 1) 0);
let v149 : Int := IntKind.i64.wrap (8 * v146.tmod 8);
let v150 : Int := shlI IntKind.u64 v148 v149;
let v151 : Int := orI IntKind.u64 (v145.getD (mulE v147.toNat 1) 0) v150;
let v152 : List Int := v145.set (mulE v147.toNat 1) v151;
let v153 : Int := IntKind.i64.wrap (v146 + 1);
let v154 : Int := IntKind.i64.wrap (v153.tdiv 8);
let v155 : Int := IntKind.u64.wrap (x.getD (mulE v153.toNat 1) 0);
let v156 : Int := IntKind.i64.wrap (8 * v153.tmod 8);
let v157 : Int := shlI IntKind.u64 v155 v156;
let v158 : Int := orI IntKind.u64 (v152.getD (mulE v154.toNat 1) 0) v157;
let v159 : List Int := v152.set (mulE v154.toNat 1) v158;
let v160 : Int := IntKind.i64.wrap (v153 + 1);
let v161 : Int := IntKind.i64.wrap (v160.tdiv 8);
let v162 : Int := IntKind.u64.wrap (x.getD (mulE v160.toNat 1) 0);
let v163 : Int := IntKind.i64.wrap (8 * v160.tmod 8);
let v164 : Int := shlI IntKind.u64 v162 v163;
let v165 : Int := orI IntKind.u64 (v159.getD (mulE v161.toNat 1) 0) v164;
let v166 : List Int := v159.set (mulE v161.toNat 1) v165;
let v167 : Int := IntKind.i64.wrap (v160 + 1);
let v168 : Int := IntKind.i64.wrap (v167.tdiv 8);
let v169 : Int := IntKind.u64.wrap (x.getD (mulE v167.toNat 1) 0);
let v170 : Int := IntKind.i64.wrap (8 * v167.tmod 8);
let v171 : Int := shlI IntKind.u64 v169 v170;
let v172 : Int := orI IntKind.u64 (v166.getD (mulE v168.toNat 1) 0) v171;
let v173 : List Int := v166.set (mulE v168.toNat 1) v172;
let v174 : Int := IntKind.i64.wrap (v167 + 1);
let v175 : Int := IntKind.i64.wrap (v174.tdiv 8);
let v176 : Int := IntKind.u64.wrap (x.getD (mulE v174.toNat 1) 0);
let v177 : Int := IntKind.i64.wrap (8 * v174.tmod 8);
let v178 : Int := shlI IntKind.u64 v176 v177;
let v179 : Int := orI IntKind.u64 (v173.getD (mulE v175.toNat 1) 0) v178;
let v180 : List Int := v173.set (mulE v175.toNat 1) v179;
let v181 : Int := IntKind.i64.wrap (v174 + 1);
let v182 : Int := IntKind.i64.wrap (v181.tdiv 8);
let v183 : Int := IntKind.u64.wrap (x.getD (mulE v181.toNat 1) 0);
let v184 : Int := IntKind.i64.wrap (8 * v181.tmod 8);
let v185 : Int := shlI IntKind.u64 v183 v184;
let v186 : Int := orI IntKind.u64 (v180.getD (mulE v182.toNat 1) 0) v185;
let v187 : List Int := v180.set (mulE v182.toNat 1) v186;
let v188 : Int := IntKind.i64.wrap (v181 + 1);
let v189 : Int := IntKind.i64.wrap (v188.tdiv 8);
let v190 : Int := IntKind.u64.wrap (x.getD (mulE v188.toNat 1) 0);
let v191 : Int := IntKind.i64.wrap (8 * v188.tmod 8);
let v192 : Int := shlI IntKind.u64 v190 v191;
let v193 : Int := orI IntKind.u64 (v187.getD (mulE v189.toNat 1) 0) v192;
let v194 : List Int := v187.set (mulE v189.toNat 1) v193;
let v195 : Int := IntKind.i64.wrap (v188 + 1);
let v196 : Int := IntKind.i64.wrap (v195.tdiv 8);
let v197 : Int := IntKind.u64.wrap (x.getD (mulE v195.toNat 1) 0);
let v198 : Int := IntKind.i64.wrap (8 * v195.tmod 8);
let v199 : Int := shlI IntKind.u64 v197 v198;
let v200 : Int := orI IntKind.u64 (v194.getD (mulE v196.toNat 1) 0) v199;
let v201 : List Int := v194.set (mulE v196.toNat 1) v200;
let v202 : Int := IntKind.i64.wrap (v195 + 1);
let v203 : Int := IntKind.i64.wrap (v202.tdiv 8);
let v204 : Int := IntKind.u64.wrap (x.getD (mulE v202.toNat 1) 0);
let v205 : Int := IntKind.i64.wrap (8 * v202.tmod 8);
let v206 : Int := shlI IntKind.u64 v204 v205;
let v207 : Int := orI IntKind.u64 (v201.getD (mulE v203.toNat 1) 0) v206;
let v208 : List Int := v201.set (mulE v203.toNat 1) v207;
let v209 : Int := IntKind.i64.wrap (v202 + 1);
let v210 : Int := IntKind.i64.wrap (v209.tdiv 8);
let v211 : Int := IntKind.u64.wrap (x.getD (mulE v209.toNat 1) 0);
let v212 : Int := IntKind.i64.wrap (8 * v209.tmod 8);
let v213 : Int := shlI IntKind.u64 v211 v212;
let v214 : Int := orI IntKind.u64 (v208.getD (mulE v210.toNat 1) 0) v213;
let v215 : List Int := v208.set (mulE v210.toNat 1) v214;
let v216 : Int := IntKind.i64.wrap (v209 + 1);
let v217 : Int := IntKind.i64.wrap (v216.tdiv 8);
let v218 : Int := IntKind.u64.wrap (x.getD (mulE v216.toNat 1) 0);
let v219 : Int := IntKind.i64.wrap (8 * v216.tmod 8);
let v220 : Int := shlI IntKind.u64 v218 v219;
let v221 : Int := orI IntKind.u64 (v215.getD (mulE v217.toNat 1) 0) v220;
let v222 : List Int := v215.set (mulE v217.toNat 1) v221;
k [DV.v (SV.one (At.ints IntKind.u64 4 v222))]


noncomputable def E80 (N : Nat) : Env := { Θ := Th, Γ := [], K := K80, ν := N80, fuel := 60, lp := [] }


theorem f80_contract (N : Nat) (hΓ : CtxOk Try.prog []) : Contract Try.prog 80 { sig := S80, impl := fun _ ds k => call (E80 N) S80 24 B80 R80 ds k } :=
  call_contract (E := E80 N) thOk hΓ mixed ok80.look ok80.body ok80.n ok80.rv ok80.name rfl (by decide) (loopsOk_of (l := [(0, B80_0)]) (by kernel_rfl) (allOk_skip rfl trivial))
theorem f80_raw_eq {R : Type} (N : Nat) (x : List Int) (k : List DV → Option R) : call (E80 N) S80 24 B80 R80 [.v (.one (.ints .u8 32 x))] k = f80_raw N x k := by kernel_rfl
end Go.Proofs.Ytogcijgklnfjjaa

namespace Go.Proofs.Ytogcijgklnfjjaa
open Go Go.Eng
set_option maxRecDepth 100000

noncomputable def maHi (x y z c : Int) : Int := IntKind.u64.wrap (IntKind.u64.wrap (mulHi x y + addHi (mulLo x y) z 0) + addHi (addLo (mulLo x y) z 0) c 0)
noncomputable def maLo (x y z c : Int) : Int := addLo (addLo (mulLo x y) z 0) c 0

noncomputable def I102 : (R : Type) → List DV → (List DV → Option R) → Option R := fun _ ds k => match ds with
  | [.v (.one (.int .u64 x)), .v (.one (.int .u64 y)), .v (.one (.int .u64 z)), .v (.one (.int .u64 c))] => k [.v (.one (.int .u64 (maHi x y z c))), .v (.one (.int .u64 (maLo x y z c)))]
  | _ => none
theorem c102 : Contract Try.prog 102 { sig := S102, impl := I102 } := by
  refine Contract.refine fun R ds k r h => ⟨_, f102_contract 0 G102_ok, ?_⟩
  unfold I102 at h
  split at h
  · rw [f102_raw_eq]; exact h
  · cases h

theorem subHi_01 (x y c : Int) : (decide (subHi x y c = 0) || decide (subHi x y c = 1)) = true := by
  unfold subHi
  cases Nat.blt x.toNat (y.toNat + c.toNat) <;> rfl

noncomputable def lessB : List Int → List Int → Int → Int
  | x :: xs, y :: ys, c => lessB xs ys (subHi x y c)
  | _, _, c => c
noncomputable def lessD : List Int → List Int → Int → List Int
  | x :: xs, y :: ys, c => subLo x y c :: lessD xs ys (subHi x y c)
  | _, _, _ => []
def w4 (x : List Int) : List Int := [x.getD 0 0, x.getD 1 0, x.getD 2 0, x.getD 3 0]
noncomputable def lessL (x y : List Int) : List Int := lessD (w4 x) (w4 y) 0
noncomputable def under (x y : List Int) : Int := lessB (w4 x) (w4 y) 0

theorem f56_spec {R : Type} (x y : List Int) (k : List DV → Option R) : f56_raw 0 x y k = k [.v (.one (.ints .u64 4 (lessL x y))), .v (.one (.int .u64 (under x y)))] := by
  unfold f56_raw
  simp only [subHi_01, cond_true]
  rfl

noncomputable def I56 : (R : Type) → List DV → (List DV → Option R) → Option R := fun _ ds k => match ds with
  | [.v (.one (.ints .u64 4 x)), .v (.one (.ints .u64 4 y))] => k [.v (.one (.ints .u64 4 (lessL x y))), .v (.one (.int .u64 (under x y)))]
  | _ => none
theorem c56 : Contract Try.prog 56 { sig := S56, impl := I56 } := by
  refine Contract.refine fun R ds k r h => ⟨_, f56_contract 0 G56_ok, ?_⟩
  unfold I56 at h
  split at h
  · rw [f56_raw_eq, f56_spec]; exact h
  · cases h

noncomputable def backR (x : List Int) : List Int := ansL (f53_raw 0 x some) 0
theorem f53_spec {R : Type} (x : List Int) (k : List DV → Option R) : f53_raw 0 x k = k [.v (.one (.ints .u8 32 (backR x)))] := by kernel_rfl
noncomputable def backS : { f : List Int → List Int // ∀ x, f x = backR x } := Classical.choice ⟨⟨backR, fun _ => rfl⟩⟩
noncomputable def backL (x : List Int) : List Int := backS.1 x
theorem backL_eq (x : List Int) : backL x = backR x := backS.2 x
noncomputable def I53 : (R : Type) → List DV → (List DV → Option R) → Option R := fun _ ds k => match ds with
  | [.v (.one (.ints .u64 4 x))] => k [.v (.one (.ints .u8 32 (backL x)))]
  | _ => none
theorem c53 : Contract Try.prog 53 { sig := S53, impl := I53 } := by
  refine Contract.refine fun R ds k r h => ⟨_, f53_contract 0 ctxOk_nil, ?_⟩
  unfold I53 at h
  split at h
  · rw [f53_raw_eq, f53_spec, ← backL_eq]; exact h
  · cases h

noncomputable def fromR (x : List Int) : List Int := ansL (f80_raw 0 x some) 0
theorem f80_spec {R : Type} (x : List Int) (k : List DV → Option R) : f80_raw 0 x k = k [.v (.one (.ints .u64 4 (fromR x)))] := by kernel_rfl
noncomputable def fromS : { f : List Int → List Int // ∀ x, f x = fromR x } := Classical.choice ⟨⟨fromR, fun _ => rfl⟩⟩
noncomputable def fromL (x : List Int) : List Int := fromS.1 x
theorem fromL_eq (x : List Int) : fromL x = fromR x := fromS.2 x
noncomputable def I80 : (R : Type) → List DV → (List DV → Option R) → Option R := fun _ ds k => match ds with
  | [.v (.one (.ints .u8 32 x))] => k [.v (.one (.ints .u64 4 (fromL x)))]
  | _ => none
theorem c80 : Contract Try.prog 80 { sig := S80, impl := I80 } := by
  refine Contract.refine fun R ds k r h => ⟨_, f80_contract 0 ctxOk_nil, ?_⟩
  unfold I80 at h
  split at h
  · rw [f80_raw_eq, f80_spec, ← fromL_eq]; exact h
  · cases h

noncomputable def G79 : Ctx := [(57, { sig := S57, impl := I57 }), (56, { sig := S56, impl := I56 })]
theorem G79_ok : CtxOk Try.prog G79 := ctxOk_cons ok57 rfl c57 (ctxOk_cons ok56 rfl c56 ctxOk_nil)
end Go.Proofs.Ytogcijgklnfjjaa

namespace Go.Proofs.Ytogcijgklnfjjaa
open Go Go.Eng
set_option maxRecDepth 100000
set_option linter.unusedVariables false

noncomputable def f79_raw {R : Type} (N : Nat) (x : List Int) (k : List DV → Option R) : Option R :=
 bif under x ordW == 0 then k [DV.v (SV.one (At.ints IntKind.u64 4 (lessL x ordW)))] else k [DV.v (SV.one (At.ints IntKind.u64 4 x))]


noncomputable def E79 (N : Nat) : Env := { Θ := Th, Γ := G79, K := K79, ν := N79, fuel := 20, lp := [] }


theorem f79_contract (N : Nat) (hΓ : CtxOk Try.prog G79) : Contract Try.prog 79 { sig := S79, impl := fun _ ds k => call (E79 N) S79 15 B79 R79 ds k } :=
  call_contract (E := E79 N) thOk hΓ mixed ok79.look ok79.body ok79.n ok79.rv ok79.name rfl (by decide) (loopsOk_of (l := []) (by kernel_rfl) trivial)
theorem f79_raw_eq {R : Type} (N : Nat) (x : List Int) (k : List DV → Option R) : call (E79 N) S79 15 B79 R79 [.v (.one (.ints .u64 4 x))] k = f79_raw N x k := by kernel_rfl
end Go.Proofs.Ytogcijgklnfjjaa

namespace Go.Proofs.Ytogcijgklnfjjaa
open Go Go.Eng
set_option maxRecDepth 100000

noncomputable def lowL (x : List Int) : List Int := bif under x ordW == 0 then lessL x ordW else x
noncomputable def I79 : (R : Type) → List DV → (List DV → Option R) → Option R := fun _ ds k => match ds with
  | [.v (.one (.ints .u64 4 x))] => k [.v (.one (.ints .u64 4 (lowL x)))]
  | _ => none
theorem c79 : Contract Try.prog 79 { sig := S79, impl := I79 } := by
  refine Contract.refine fun R ds k r h => ⟨_, f79_contract 0 G79_ok, ?_⟩
  unfold I79 at h
  split at h
  · rename_i x
    rw [f79_raw_eq]
    unfold f79_raw
    unfold lowL at h
    cases hc : under x ordW == 0 with
    | true => rw [hc] at h; exact h
    | false => rw [hc] at h; exact h
  · cases h

noncomputable def G54 : Ctx := [(78, { sig := SV33, impl := IAdd64 }), (79, { sig := S79, impl := I79 })]
theorem G54_ok : CtxOk Try.prog G54 := ctxOk_ext rfl c78 (ctxOk_cons ok79 rfl c79 ctxOk_nil)
noncomputable def G82 : Ctx := [(57, { sig := S57, impl := I57 }), (78, { sig := SV33, impl := IAdd64 }), (79, { sig := S79, impl := I79 }), (102, { sig := S102, impl := I102 })]
theorem G82_ok : CtxOk Try.prog G82 := ctxOk_cons ok57 rfl c57 (ctxOk_ext rfl c78 (ctxOk_cons ok79 rfl c79 (ctxOk_cons ok102 rfl c102 ctxOk_nil)))
noncomputable def G55 : Ctx := [(79, { sig := S79, impl := I79 }), (80, { sig := S80, impl := I80 })]
theorem G55_ok : CtxOk Try.prog G55 := ctxOk_cons ok79 rfl c79 (ctxOk_cons ok80 rfl c80 ctxOk_nil)
end Go.Proofs.Ytogcijgklnfjjaa

namespace Go.Proofs.Ytogcijgklnfjjaa
open Go Go.Eng
set_option maxRecDepth 100000
set_option linter.unusedVariables false

noncomputable def f82_raw {R : Type} (N : Nat) (x : List Int) (y : List Int) (k : List DV → Option R) : Option R :=
 let v0 : List Int := (List.replicate 6 0).set (mulE (Int.toNat 0) 1) (maLo (x.getD (mulE (Int.toNat 0) 1) 0) (y.getD (mulE (Int.toNat 0) 1) 0) ((List.replicate 6 0).getD (mulE (Int.toNat 0) 1) 0) 0);
let v1 : Int := IntKind.i64.wrap (0 + 1);
let v2 : List Int := v0.set (mulE v1.toNat 1) (maLo (x.getD (mulE (Int.toNat 0) 1) 0) (y.getD (mulE v1.toNat 1) 0) (v0.getD (mulE v1.toNat 1) 0) (maHi (x.getD (mulE (Int.toNat 0) 1) 0) (y.getD (mulE (Int.toNat 0) 1) 0) ((List.replicate 6 0).getD (mulE (Int.toNat 0) 1) 0) 0));
let v3 : Int := IntKind.i64.wrap (v1 + 1);
let v4 : List Int := v2.set (mulE v3.toNat 1) (maLo (x.getD (mulE (Int.toNat 0) 1) 0) (y.getD (mulE v3.toNat 1) 0) (v2.getD (mulE v3.toNat 1) 0) (maHi (x.getD (mulE (Int.toNat 0) 1) 0) (y.getD (mulE v1.toNat 1) 0) (v0.getD (mulE v1.toNat 1) 0) (maHi (x.getD (mulE (Int.toNat 0) 1) 0) (y.getD (mulE (Int.toNat 0) 1) 0) ((List.replicate 6 0).getD (mulE (Int.toNat 0) 1) 0) 0)));
let v5 : Int := IntKind.i64.wrap (v3 + 1);
let v6 : List Int := v4.set (mulE v5.toNat 1) (maLo (x.getD (mulE (Int.toNat 0) 1) 0) (y.getD (mulE v5.toNat 1) 0) (v4.getD (mulE v5.toNat 1) 0) (maHi (x.getD (mulE (Int.toNat 0) 1) 0) (y.getD (mulE v3.toNat 1) 0) (v2.getD (mulE v3.toNat 1) 0) (maHi (x.getD (mulE (Int.toNat 0) 1) 0) (y.getD (mulE v1.toNat 1) 0) (v0.getD (mulE v1.toNat 1) 0) (maHi (x.getD (mulE (Int.toNat 0) 1) 0) (y.getD (mulE (Int.toNat 0) 1) 0) ((List.replicate 6 0).getD (mulE (Int.toNat 0) 1) 0) 0))));
let v7 : List Int := v6.set (mulE (Int.toNat 4) 1) (addLo (v6.getD (mulE (Int.toNat 4) 1) 0) (maHi (x.getD (mulE (Int.toNat 0) 1) 0) (y.getD (mulE v5.toNat 1) 0) (v4.getD (mulE v5.toNat 1) 0) (maHi (x.getD (mulE (Int.toNat 0) 1) 0) (y.getD (mulE v3.toNat 1) 0) (v2.getD (mulE v3.toNat 1) 0) (maHi (x.getD (mulE (Int.toNat 0) 1) 0) (y.getD (mulE v1.toNat 1) 0) (v0.getD (mulE v1.toNat 1) 0) (maHi (x.getD (mulE (Int.toNat 0) 1) 0) (y.getD (mulE (Int.toNat 0) 1) 0) ((List.replicate 6 0).getD (mulE (Int.toNat 0) 1) 0) 0)))) 0);
let v8 : List Int := v7.set (mulE (Int.toNat 5) 1) (addHi (v6.getD (mulE (Int.toNat 4) 1) 0) (maHi (x.getD (mulE (Int.toNat 0) 1) 0) (y.getD (mulE v5.toNat 1) 0) (v4.getD (mulE v5.toNat 1) 0) (maHi (x.getD (mulE (Int.toNat 0) 1) 0) (y.getD (mulE v3.toNat 1) 0) (v2.getD (mulE v3.toNat 1) 0) (maHi (x.getD (mulE (Int.toNat 0) 1) 0) (y.getD (mulE v1.toNat 1) 0) (v0.getD (mulE v1.toNat 1) 0) (maHi (x.getD (mulE (Int.toNat 0) 1) 0) (y.getD (mulE (Int.toNat 0) 1) 0) ((List.replicate 6 0).getD (mulE (Int.toNat 0) 1) 0) 0)))) 0);
let v9 : Int := IntKind.i64.wrap (1 - 1);
let v10 : Int := IntKind.u64.wrap (v8.getD (mulE (Int.toNat 0) 1) 0 * 15183074304973897243);
let v11 : List Int := v8.set (mulE v9.toNat 1) (maLo v10 (ordW.getD (mulE (Int.toNat 1) 1) 0) (v8.getD (mulE (Int.toNat 1) 1) 0) (maHi v10 (ordW.getD (mulE (Int.toNat 0) 1) 0) (v8.getD (mulE (Int.toNat 0) 1) 0) 0));
let v12 : Int := IntKind.i64.wrap (1 + 1);
let v13 : Int := IntKind.i64.wrap (v12 - 1);
let v14 : List Int := v11.set (mulE v13.toNat 1) (maLo v10 (ordW.getD (mulE v12.toNat 1) 0) (v11.getD (mulE v12.toNat 1) 0) (maHi v10 (ordW.getD (mulE (Int.toNat 1) 1) 0) (v8.getD (mulE (Int.toNat 1) 1) 0) (maHi v10 (ordW.getD (mulE (Int.toNat 0) 1) 0) (v8.getD (mulE (Int.toNat 0) 1) 0) 0)));
let v15 : Int := IntKind.i64.wrap (v12 + 1);
let v16 : Int := IntKind.i64.wrap (v15 - 1);
let v17 : List Int := v14.set (mulE v16.toNat 1) (maLo v10 (ordW.getD (mulE v15.toNat 1) 0) (v14.getD (mulE v15.toNat 1) 0) (maHi v10 (ordW.getD (mulE v12.toNat 1) 0) (v11.getD (mulE v12.toNat 1) 0) (maHi v10 (ordW.getD (mulE (Int.toNat 1) 1) 0) (v8.getD (mulE (Int.toNat 1) 1) 0) (maHi v10 (ordW.getD (mulE (Int.toNat 0) 1) 0) (v8.getD (mulE (Int.toNat 0) 1) 0) 0))));
let v18 : List Int := v17.set (mulE (Int.toNat 3) 1) (addLo (v17.getD (mulE (Int.toNat 4) 1) 0) (maHi v10 (ordW.getD (mulE v15.toNat 1) 0) (v14.getD (mulE v15.toNat 1) 0) (maHi v10 (ordW.getD (mulE v12.toNat 1) 0) (v11.getD (mulE v12.toNat 1) 0) (maHi v10 (ordW.getD (mulE (Int.toNat 1) 1) 0) (v8.getD (mulE (Int.toNat 1) 1) 0) (maHi v10 (ordW.getD (mulE (Int.toNat 0) 1) 0) (v8.getD (mulE (Int.toNat 0) 1) 0) 0)))) 0);
let v19 : Int := IntKind.u64.wrap (v18.getD (mulE (Int.toNat 5) 1) 0 + addHi (v17.getD (mulE (Int.toNat 4) 1) 0) (maHi v10 (ordW.getD (mulE v15.toNat 1) 0) (v14.getD (mulE v15.toNat 1) 0) (maHi v10 (ordW.getD (mulE v12.toNat 1) 0) (v11.getD (mulE v12.toNat 1) 0) (maHi v10 (ordW.getD (mulE (Int.toNat 1) 1) 0) (v8.getD (mulE (Int.toNat 1) 1) 0) (maHi v10 (ordW.getD (mulE (Int.toNat 0) 1) 0) (v8.getD (mulE (Int.toNat 0) 1) 0) 0)))) 0);
let v20 : List Int := v18.set (mulE (Int.toNat 4) 1) v19;
let v21 : List Int := v20.set (mulE (Int.toNat 0) 1) (maLo (x.getD (mulE v1.toNat 1) 0) (y.getD (mulE (Int.toNat 0) 1) 0) (v20.getD (mulE (Int.toNat 0) 1) 0) 0);
let v22 : List Int := v21.set (mulE v1.toNat 1) (maLo (x.getD (mulE v1.toNat 1) 0) (y.getD (mulE v1.toNat 1) 0) (v21.getD (mulE v1.toNat 1) 0) (maHi (x.getD (mulE v1.toNat 1) 0) (y.getD (mulE (Int.toNat 0) 1) 0) (v20.getD (mulE (Int.toNat 0) 1) 0) 0));
let v23 : List Int := v22.set (mulE v3.toNat 1) (maLo (x.getD (mulE v1.toNat 1) 0) (y.getD (mulE v3.toNat 1) 0) (v22.getD (mulE v3.toNat 1) 0) (maHi (x.getD (mulE v1.toNat 1) 0) (y.getD (mulE v1.toNat 1) 0) (v21.getD (mulE v1.toNat 1) 0) (maHi (x.getD (mulE v1.toNat 1) 0) (y.getD (mulE (Int.toNat 0) 1) 0) (v20.getD (mulE (Int.toNat 0) 1) 0) 0)));
let v24 : List Int := v23.set (mulE v5.toNat 1) (maLo (x.getD (mulE v1.toNat 1) 0) (y.getD (mulE v5.toNat 1) 0) (v23.getD (mulE v5.toNat 1) 0) (maHi (x.getD (mulE v1.toNat 1) 0) (y.getD (mulE v3.toNat 1) 0) (v22.getD (mulE v3.toNat 1) 0) (maHi (x.getD (mulE v1.toNat 1) 0) (y.getD (mulE v1.toNat 1) 0) (v21.getD (mulE v1.toNat 1) 0) (maHi (x.getD (mulE v1.toNat 1) 0) (y.getD (mulE (Int.toNat 0) 1) 0) (v20.getD (mulE (Int.toNat 0) 1) 0) 0))));
let v25 : List Int := v24.set (mulE (Int.toNat 4) 1) (addLo (v24.getD (mulE (Int.toNat 4) 1) 0) (maHi (x.getD (mulE v1.toNat 1) 0) (y.getD (mulE v5.toNat 1) 0) (v23.getD (mulE v5.toNat 1) 0) (maHi (x.getD (mulE v1.toNat 1) 0) (y.getD (mulE v3.toNat 1) 0) (v22.getD (mulE v3.toNat 1) 0) (maHi (x.getD (mulE v1.toNat 1) 0) (y.getD (mulE v1.toNat 1) 0) (v21.getD (mulE v1.toNat 1) 0) (maHi (x.getD (mulE v1.toNat 1) 0) (y.getD (mulE (Int.toNat 0) 1) 0) (v20.getD (mulE (Int.toNat 0) 1) 0) 0)))) 0);
let v26 : List Int := v25.set (mulE (Int.toNat 5) 1) (addHi (v24.getD (mulE (Int.toNat 4) 1) 0) (maHi (x.getD (mulE v1.toNat 1) 0) (y.getD (mulE v5.toNat 1) 0) (v23.getD (mulE v5.toNat 1) 0) (maHi (x.getD (mulE v1.toNat 1) 0) (y.getD (mulE v3.toNat 1) 0) (v22.getD (mulE v3.toNat 1) 0) (maHi (x.getD (mulE v1.toNat 1) 0) (y.getD (mulE v1.toNat 1) 0) (v21.getD (mulE v1.toNat 1) 0) (maHi (x.getD (mulE v1.toNat 1) 0) (y.getD (mulE (Int.toNat 0) 1) 0) (v20.getD (mulE (Int.toNat 0) 1) 0) 0)))) 0);
let v27 : Int := IntKind.u64.wrap (v26.getD (mulE (Int.toNat 0) 1) 0 * 15183074304973897243);
let v28 : List Int := v26.set (mulE v9.toNat 1) (maLo v27 (ordW.getD (mulE (Int.toNat 1) 1) 0) (v26.getD (mulE (Int.toNat 1) 1) 0) (maHi v27 (ordW.getD (mulE (Int.toNat 0) 1) 0) (v26.getD (mulE (Int.toNat 0) 1) 0) 0));
let v29 : List Int := v28.set (mulE v13.toNat 1) (maLo v27 (ordW.getD (mulE v12.toNat 1) 0) (v28.getD (mulE v12.toNat 1) 0) (maHi v27 (ordW.getD (mulE (Int.toNat 1) 1) 0) (v26.getD (mulE (Int.toNat 1) 1) 0) (maHi v27 (ordW.getD (mulE (Int.toNat 0) 1) 0) (v26.getD (mulE (Int.toNat 0) 1) 0) 0)));
let v30 : List Int := v29.set (mulE v16.toNat 1) (maLo v27 (ordW.getD (mulE v15.toNat 1) 0) (v29.getD (mulE v15.toNat 1) 0) (maHi v27 (ordW.getD (mulE v12.toNat 1) 0) (v28.getD (mulE v12.toNat 1) 0) (maHi v27 (ordW.getD (mulE (Int.toNat 1) 1) 0) (v26.getD (mulE (Int.toNat 1) 1) 0) (maHi v27 (ordW.getD (mulE (Int.toNat 0) 1) 0) (v26.getD (mulE (Int.toNat 0) 1) 0) 0))));
let v31 : List Int := v30.set (mulE (Int.toNat 3) 1) (addLo (v30.getD (mulE (Int.toNat 4) 1) 0) (maHi v27 (ordW.getD (mulE v15.toNat 1) 0) (v29.getD (mulE v15.toNat 1) 0) (maHi v27 (ordW.getD (mulE v12.toNat 1) 0) (v28.getD (mulE v12.toNat 1) 0) (maHi v27 (ordW.getD (mulE (Int.toNat 1) 1) 0) (v26.getD (mulE (Int.toNat 1) 1) 0) (maHi v27 (ordW.getD (mulE (Int.toNat 0) 1) 0) (v26.getD (mulE (Int.toNat 0) 1) 0) 0)))) 0);
let v32 : Int := IntKind.u64.wrap (v31.getD (mulE (Int.toNat 5) 1) 0 + addHi (v30.getD (mulE (Int.toNat 4) 1) 0) (maHi v27 (ordW.getD (mulE v15.toNat 1) 0) (v29.getD (mulE v15.toNat 1) 0) (maHi v27 (ordW.getD (mulE v12.toNat 1) 0) (v28.getD (mulE v12.toNat 1) 0) (maHi v27 (ordW.getD (mulE (Int.toNat 1) 1) 0) (v26.getD (mulE (Int.toNat 1) 1) 0) (maHi v27 (ordW.getD (mulE (Int.toNat 0) 1) 0) (v26.getD (mulE (Int.toNat 0) 1) 0) 0)))) 0);
let v33 : List Int := v31.set (mulE (Int.toNat 4) 1) v32;
let v34 : List Int := v33.set (mulE (Int.toNat 0) 1) (maLo (x.getD (mulE v3.toNat 1) 0) (y.getD (mulE (Int.toNat 0) 1) 0) (v33.getD (mulE (Int.toNat 0) 1) 0) 0);
let v35 : List Int := v34.set (mulE v1.toNat 1) (maLo (x.getD (mulE v3.toNat 1) 0) (y.getD (mulE v1.toNat 1) 0) (v34.getD (mulE v1.toNat 1) 0) (maHi (x.getD (mulE v3.toNat 1) 0) (y.getD (mulE (Int.toNat 0) 1) 0) (v33.getD (mulE (Int.toNat 0) 1) 0) 0));
let v36 : List Int := v35.set (mulE v3.toNat 1) (maLo (x.getD (mulE v3.toNat 1) 0) (y.getD (mulE v3.toNat 1) 0) (v35.getD (mulE v3.toNat 1) 0) (maHi (x.getD (mulE v3.toNat 1) 0) (y.getD (mulE v1.toNat 1) 0) (v34.getD (mulE v1.toNat 1) 0) (maHi (x.getD (mulE v3.toNat 1) 0) (y.getD (mulE (Int.toNat 0) 1) 0) (v33.getD (mulE (Int.toNat 0) 1) 0) 0)));
let v37 : List Int := v36.set (mulE v5.toNat 1) (maLo (x.getD (mulE v3.toNat 1) 0) (y.getD (mulE v5.toNat 1) 0) (v36.getD (mulE v5.toNat 1) 0) (maHi (x.getD (mulE v3.toNat 1) 0) (y.getD (mulE v3.toNat 1) 0) (v35.getD (mulE v3.toNat 1) 0) (maHi (x.getD (mulE v3.toNat 1) 0) (y.getD (mulE v1.toNat 1) 0) (v34.getD (mulE v1.toNat 1) 0) (maHi (x.getD (mulE v3.toNat 1) 0) (y.getD (mulE (Int.toNat 0) 1) 0) (v33.getD (mulE (Int.toNat 0) 1) 0) 0))));
let v38 : List Int := v37.set (mulE (Int.toNat 4) 1) (addLo (v37.getD (mulE (Int.toNat 4) 1) 0) (maHi (x.getD (mulE v3.toNat 1) 0) (y.getD (mulE v5.toNat 1) 0) (v36.getD (mulE v5.toNat 1) 0) (maHi (x.getD (mulE v3.toNat 1) 0) (y.getD (mulE v3.toNat 1) 0) (v35.getD (mulE v3.toNat 1) 0) (maHi (x.getD (mulE v3.toNat 1) 0) (y.getD (mulE v1.toNat 1) 0) (v34.getD (mulE v1.toNat 1) 0) (maHi (x.getD (mulE v3.toNat 1) 0) (y.getD (mulE (Int.toNat 0) 1) 0) (v33.getD (mulE (Int.toNat 0) 1) 0) 0)))) 0);
let v39 : List Int := v38.set (mulE (Int.toNat 5) 1) (addHi (v37.getD (mulE (Int.toNat 4) 1) 0) (maHi (x.getD (mulE v3.toNat 1) 0) (y.getD (mulE v5.toNat 1) 0) (v36.getD (mulE v5.toNat 1) 0) (maHi (x.getD (mulE v3.toNat 1) 0) (y.getD (mulE v3.toNat 1) 0) (v35.getD (mulE v3.toNat 1) 0) (maHi (x.getD (mulE v3.toNat 1) 0) (y.getD (mulE v1.toNat 1) 0) (v34.getD (mulE v1.toNat 1) 0) (maHi (x.getD (mulE v3.toNat 1) 0) (y.getD (mulE (Int.toNat 0) 1) 0) (v33.getD (mulE (Int.toNat 0) 1) 0) 0)))) 0);
let v40 : Int := IntKind.u64.wrap (v39.getD (mulE (Int.toNat 0) 1) 0 * 15183074304973897243);
let v41 : List Int := v39.set (mulE v9.toNat 1) (maLo v40 (ordW.getD (mulE (Int.toNat 1) 1) 0) (v39.getD (mulE (Int.toNat 1) 1) 0) (maHi v40 (ordW.getD (mulE (Int.toNat 0) 1) 0) (v39.getD (mulE (Int.toNat 0) 1) 0) 0));
let v42 : List Int := v41.set (mulE v13.toNat 1) (maLo v40 (ordW.getD (mulE v12.toNat 1) 0) (v41.getD (mulE v12.toNat 1) 0) (maHi v40 (ordW.getD (mulE (Int.toNat 1) 1) 0) (v39.getD (mulE (Int.toNat 1) 1) 0) (maHi v40 (ordW.getD (mulE (Int.toNat 0) 1) 0) (v39.getD (mulE (Int.toNat 0) 1) 0) 0)));
let v43 : List Int := v42.set (mulE v16.toNat 1) (maLo v40 (ordW.getD (mulE v15.toNat 1) 0) (v42.getD (mulE v15.toNat 1) 0) (maHi v40 (ordW.getD (mulE v12.toNat 1) 0) (v41.getD (mulE v12.toNat 1) 0) (maHi v40 (ordW.getD (mulE (Int.toNat 1) 1) 0) (v39.getD (mulE (Int.toNat 1) 1) 0) (maHi v40 (ordW.getD (mulE (Int.toNat 0) 1) 0) (v39.getD (mulE (Int.toNat 0) 1) 0) 0))));
let v44 : List Int := v43.set (mulE (Int.toNat 3) 1) (addLo (v43.getD (mulE (Int.toNat 4) 1) 0) (maHi v40 (ordW.getD (mulE v15.toNat 1) 0) (v42.getD (mulE v15.toNat 1) 0) (maHi v40 (ordW.getD (mulE v12.toNat 1) 0) (v41.getD (mulE v12.toNat 1) 0) (maHi v40 (ordW.getD (mulE (Int.toNat 1) 1) 0) (v39.getD (mulE (Int.toNat 1) 1) 0) (maHi v40 (ordW.getD (mulE (Int.toNat 0) 1) 0) (v39.getD (mulE (Int.toNat 0) 1) 0) 0)))) 0);
let v45 : Int := IntKind.u64.wrap (v44.getD (mulE (Int.toNat 5) 1) 0 + addHi (v43.getD (mulE (Int.toNat 4) 1) 0) (maHi v40 (ordW.getD (mulE v15.toNat 1) 0) (v42.getD (mulE v15.toNat 1) 0) (maHi v40 (ordW.getD (mulE v12.toNat 1) 0) (v41.getD (mulE v12.toNat 1) 0) (maHi v40 (ordW.getD (mulE (Int.toNat 1) 1) 0) (v39.getD (mulE (Int.toNat 1) 1) 0) (maHi v40 (ordW.getD (mulE (Int.toNat 0) 1) 0) (v39.getD (mulE (Int.toNat 0) 1) 0) 0)))) 0);
let v46 : List Int := v44.set (mulE (Int.toNat 4) 1) v45;
let v47 : List Int := v46.set (mulE (Int.toNat 0) 1) (maLo (x.getD (mulE v5.toNat 1) 0) (y.getD (mulE (Int.toNat 0) 1) 0) (v46.getD (mulE (Int.toNat 0) 1) 0) 0);
let v48 : List Int := v47.set (mulE v1.toNat 1) (maLo (x.getD (mulE v5.toNat 1) 0) (y.getD (mulE v1.toNat 1) 0) (v47.getD (mulE v1.toNat 1) 0) (maHi (x.getD (mulE v5.toNat 1) 0) (y.getD (mulE (Int.toNat 0) 1) 0) (v46.getD (mulE (Int.toNat 0) 1) 0) 0));
let v49 : List Int := v48.set (mulE v3.toNat 1) (maLo (x.getD (mulE v5.toNat 1) 0) (y.getD (mulE v3.toNat 1) 0) (v48.getD (mulE v3.toNat 1) 0) (maHi (x.getD (mulE v5.toNat 1) 0) (y.getD (mulE v1.toNat 1) 0) (v47.getD (mulE v1.toNat 1) 0) (maHi (x.getD (mulE v5.toNat 1) 0) (y.getD (mulE (Int.toNat 0) 1) 0) (v46.getD (mulE (Int.toNat 0) 1) 0) 0)));
let v50 : List Int := v49.set (mulE v5.toNat 1) (maLo (x.getD (mulE v5.toNat 1) 0) (y.getD (mulE v5.toNat 1) 0) (v49.getD (mulE v5.toNat 1) 0) (maHi (x.getD (mulE v5.toNat 1) 0) (y.getD (mulE v3.toNat 1) 0) (v48.getD (mulE v3.toNat 1) 0) (maHi (x.getD (mulE v5.toNat 1) 0) (y.getD (mulE v1.toNat 1) 0) (v47.getD (mulE v1.toNat 1) 0) (maHi (x.getD (mulE v5.toNat 1) 0) (y.getD (mulE (Int.toNat 0) 1) 0) (v46.getD (mulE (Int.toNat 0) 1) 0) 0))));
let v51 : List Int := v50.set (mulE (Int.toNat 4) 1) (addLo (v50.getD (mulE (Int.toNat 4) 1) 0) (maHi (x.getD (mulE v5.toNat 1) 0) (y.getD (mulE v5.toNat 1) 0) (v49.getD (mulE v5.toNat 1) 0) (maHi (x.getD (mulE v5.toNat 1) 0) (y.getD (mulE v3.toNat 1) 0) (v48.getD (mulE v3.toNat 1) 0) (maHi (x.getD (mulE v5.toNat 1) 0) (y.getD (mulE v1.toNat 1) 0) (v47.getD (mulE v1.toNat 1) 0) (maHi (x.getD (mulE v5.toNat 1) 0) (y.getD (mulE (Int.toNat 0) 1) 0) (v46.getD (mulE (Int.toNat 0) 1) 0) 0)))) 0);
let v52 : List Int := v51.set (mulE (Int.toNat 5) 1) (addHi (v50.getD (mulE (Int.toNat 4) 1) 0) (maHi (x.getD (mulE v5.toNat 1) 0) (y.getD (mulE v5.toNat 1) 0) (v49.getD (mulE v5.toNat 1) 0) (maHi (x.getD (mulE v5.toNat 1) 0) (y.getD (mulE v3.toNat 1) 0) (v48.getD (mulE v3.toNat 1) 0) (maHi (x.getD (mulE v5.toNat 1) 0) (y.getD (mulE v1.toNat 1) 0) (v47.getD (mulE v1.toNat 1) 0) (maHi (x.getD (mulE v5.toNat 1) 0) (y.getD (mulE (Int.toNat 0) 1) 0) (v46.getD (mulE (Int.toNat 0) 1) 0) 0)))) 0);
let v53 : Int := IntKind.u64.wrap (v52.getD (mulE (Int.toNat 0) 1) 0 * 15183074304973897243);
let v54 : List Int := v52.set (mulE v9.toNat 1) (maLo v53 (ordW.getD (mulE (Int.toNat 1) 1) 0) (v52.getD (mulE (Int.toNat 1) 1) 0) (maHi v53 (ordW.getD (mulE (Int.toNat 0) 1) 0) (v52.getD (mulE (Int.toNat 0) 1) 0) 0));
let v55 : List Int := v54.set (mulE v13.toNat 1) (maLo v53 (ordW.getD (mulE v12.toNat 1) 0) (v54.getD (mulE v12.toNat 1) 0) (maHi v53 (ordW.getD (mulE (Int.toNat 1) 1) 0) (v52.getD (mulE (Int.toNat 1) 1) 0) (maHi v53 (ordW.getD (mulE (Int.toNat 0) 1) 0) (v52.getD (mulE (Int.toNat 0) 1) 0) 0)));
let v56 : List Int := v55.set (mulE v16.toNat 1) (maLo v53 (ordW.getD (mulE v15.toNat 1) 0) (v55.getD (mulE v15.toNat 1) 0) (maHi v53 (ordW.getD (mulE v12.toNat 1) 0) (v54.getD (mulE v12.toNat 1) 0) (maHi v53 (ordW.getD (mulE (Int.toNat 1) 1) 0) (v52.getD (mulE (Int.toNat 1) 1) 0) (maHi v53 (ordW.getD (mulE (Int.toNat 0) 1) 0) (v52.getD (mulE (Int.toNat 0) 1) 0) 0))));
let v57 : List Int := v56.set (mulE (Int.toNat 3) 1) (addLo (v56.getD (mulE (Int.toNat 4) 1) 0) (maHi v53 (ordW.getD (mulE v15.toNat 1) 0) (v55.getD (mulE v15.toNat 1) 0) (maHi v53 (ordW.getD (mulE v12.toNat 1) 0) (v54.getD (mulE v12.toNat 1) 0) (maHi v53 (ordW.getD (mulE (Int.toNat 1) 1) 0) (v52.getD (mulE (Int.toNat 1) 1) 0) (maHi v53 (ordW.getD (mulE (Int.toNat 0) 1) 0) (v52.getD (mulE (Int.toNat 0) 1) 0) 0)))) 0);
let v58 : Int := IntKind.u64.wrap (v57.getD (mulE (Int.toNat 5) 1) 0 + addHi (v56.getD (mulE (Int.toNat 4) 1) 0) (maHi v53 (ordW.getD (mulE v15.toNat 1) 0) (v55.getD (mulE v15.toNat 1) 0) (maHi v53 (ordW.getD (mulE v12.toNat 1) 0) (v54.getD (mulE v12.toNat 1) 0) (maHi v53 (ordW.getD (mulE (Int.toNat 1) 1) 0) (v52.getD (mulE (Int.toNat 1) 1) 0) (maHi v53 (ordW.getD (mulE (Int.toNat 0) 1) 0) (v52.getD (mulE (Int.toNat 0) 1) 0) 0)))) 0);
let v59 : List Int := v57.set (mulE (Int.toNat 4) 1) v58;
let v60 : List Int := (List.replicate 4 0).set 0 (v59.getD (mulE (Int.toNat 0) 1) 0);
let v61 : List Int := v60.set 1 (v59.getD (mulE (Int.toNat 1) 1) 0);
let v62 : List Int := v61.set 2 (v59.getD (mulE (Int.toNat 2) 1) 0);
let v63 : List Int := v62.set 3 (v59.getD (mulE (Int.toNat 3) 1) 0);
k [DV.v (SV.one (At.ints IntKind.u64 4 (lowL v63)))]


noncomputable def E82 (N : Nat) : Env := { Θ := Th, Γ := G82, K := K82, ν := N82, fuel := 40, lp := [] }


theorem f82_contract (N : Nat) (hΓ : CtxOk Try.prog G82) : Contract Try.prog 82 { sig := S82, impl := fun _ ds k => call (E82 N) S82 101 B82 R82 ds k } :=
  call_contract (E := E82 N) thOk hΓ mixed ok82.look ok82.body ok82.n ok82.rv ok82.name rfl (by decide) (loopsOk_of (l := [(0, B82_0), (2, B82_2), (4, B82_4)]) (by kernel_rfl) (allOk_skip rfl (allOk_skip rfl (allOk_skip rfl trivial))))
theorem f82_raw_eq {R : Type} (N : Nat) (x : List Int) (y : List Int) (k : List DV → Option R) : call (E82 N) S82 101 B82 R82 [.v (.one (.ints .u64 4 x)), .v (.one (.ints .u64 4 y))] k = f82_raw N x y k := by kernel_rfl
end Go.Proofs.Ytogcijgklnfjjaa

namespace Go.Proofs.Ytogcijgklnfjjaa
open Go Go.Eng
set_option maxRecDepth 100000
set_option linter.unusedVariables false

noncomputable def f54_raw {R : Type} (N : Nat) (x : List Int) (y : List Int) (k : List DV → Option R) : Option R :=
 bif Decidable.decide (addHi (x.getD (mulE (Int.toNat 0) 1) 0) (y.getD (mulE (Int.toNat 0) 1) 0) 0 = 0) || Decidable.decide (addHi (x.getD (mulE (Int.toNat 0) 1) 0) (y.getD (mulE (Int.toNat 0) 1) 0) 0 = 1) then
 let v0 : Int := IntKind.i64.wrap (0 + 1);
 bif Decidable.decide (addHi (x.getD (mulE v0.toNat 1) 0) (y.getD (mulE v0.toNat 1) 0) (addHi (x.getD (mulE (Int.toNat 0) 1) 0) (y.getD (mulE (Int.toNat 0) 1) 0) 0) = 0) || Decidable.decide (addHi (x.getD (mulE v0.toNat 1) 0) (y.getD (mulE v0.toNat 1) 0) (addHi (x.getD (mulE (Int.toNat 0) 1) 0) (y.getD (mulE (Int.toNat 0) 1) 0) 0) = 1) then
 let v1 : Int := IntKind.i64.wrap (v0 + 1);
 bif Decidable.decide (addHi (x.getD (mulE v1.toNat 1) 0) (y.getD (mulE v1.toNat 1) 0) (addHi (x.getD (mulE v0.toNat 1) 0) (y.getD (mulE v0.toNat 1) 0) (addHi (x.getD (mulE (Int.toNat 0) 1) 0) (y.getD (mulE (Int.toNat 0) 1) 0) 0)) = 0) || Decidable.decide (addHi (x.getD (mulE v1.toNat 1) 0) (y.getD (mulE v1.toNat 1) 0) (addHi (x.getD (mulE v0.toNat 1) 0) (y.getD (mulE v0.toNat 1) 0) (addHi (x.getD (mulE (Int.toNat 0) 1) 0) (y.getD (mulE (Int.toNat 0) 1) 0) 0)) = 1) then
 let v2 : List Int := (List.replicate 4 0).set (mulE (Int.toNat 0) 1) (addLo (x.getD (mulE (Int.toNat 0) 1) 0) (y.getD (mulE (Int.toNat 0) 1) 0) 0);
 let v3 : List Int := v2.set (mulE v0.toNat 1) (addLo (x.getD (mulE v0.toNat 1) 0) (y.getD (mulE v0.toNat 1) 0) (addHi (x.getD (mulE (Int.toNat 0) 1) 0) (y.getD (mulE (Int.toNat 0) 1) 0) 0));
 let v4 : List Int := v3.set (mulE v1.toNat 1) (addLo (x.getD (mulE v1.toNat 1) 0) (y.getD (mulE v1.toNat 1) 0) (addHi (x.getD (mulE v0.toNat 1) 0) (y.getD (mulE v0.toNat 1) 0) (addHi (x.getD (mulE (Int.toNat 0) 1) 0) (y.getD (mulE (Int.toNat 0) 1) 0) 0)));
 let v5 : Int := IntKind.i64.wrap (v1 + 1);
 let v6 : List Int := v4.set (mulE v5.toNat 1) (addLo (x.getD (mulE v5.toNat 1) 0) (y.getD (mulE v5.toNat 1) 0) (addHi (x.getD (mulE v1.toNat 1) 0) (y.getD (mulE v1.toNat 1) 0) (addHi (x.getD (mulE v0.toNat 1) 0) (y.getD (mulE v0.toNat 1) 0) (addHi (x.getD (mulE (Int.toNat 0) 1) 0) (y.getD (mulE (Int.toNat 0) 1) 0) 0))));
 k [DV.v (SV.one (At.ints IntKind.u64 4 (lowL v6)))]
 else Option.none
 else Option.none
else Option.none


noncomputable def E54 (N : Nat) : Env := { Θ := Th, Γ := G54, K := K54, ν := N54, fuel := 20, lp := [] }


theorem f54_contract (N : Nat) (hΓ : CtxOk Try.prog G54) : Contract Try.prog 54 { sig := S54, impl := fun _ ds k => call (E54 N) S54 27 B54 R54 ds k } :=
  call_contract (E := E54 N) thOk hΓ mixed ok54.look ok54.body ok54.n ok54.rv ok54.name rfl (by decide) (loopsOk_of (l := [(0, B54_0)]) (by kernel_rfl) (allOk_skip rfl trivial))
theorem f54_raw_eq {R : Type} (N : Nat) (x : List Int) (y : List Int) (k : List DV → Option R) : call (E54 N) S54 27 B54 R54 [.v (.one (.ints .u64 4 x)), .v (.one (.ints .u64 4 y))] k = f54_raw N x y k := by kernel_rfl
end Go.Proofs.Ytogcijgklnfjjaa

namespace Go.Proofs.Ytogcijgklnfjjaa
open Go Go.Eng
set_option maxRecDepth 100000
set_option linter.unusedVariables false

noncomputable def f59_raw {R : Type} (N : Nat) (x : List Int) (k : List DV → Option R) : Option R :=
 bif Decidable.decide (x = List.replicate 4 0) then k [DV.v (SV.one (At.ints IntKind.u64 4 x))] else k [DV.v (SV.one (At.ints IntKind.u64 4 (lessL ordW x)))]


noncomputable def E59 (N : Nat) : Env := { Θ := Th, Γ := G79, K := K59, ν := N59, fuel := 20, lp := [] }


theorem f59_contract (N : Nat) (hΓ : CtxOk Try.prog G79) : Contract Try.prog 59 { sig := S59, impl := fun _ ds k => call (E59 N) S59 16 B59 R59 ds k } :=
  call_contract (E := E59 N) thOk hΓ mixed ok59.look ok59.body ok59.n ok59.rv ok59.name rfl (by decide) (loopsOk_of (l := []) (by kernel_rfl) trivial)
theorem f59_raw_eq {R : Type} (N : Nat) (x : List Int) (k : List DV → Option R) : call (E59 N) S59 16 B59 R59 [.v (.one (.ints .u64 4 x))] k = f59_raw N x k := by kernel_rfl
end Go.Proofs.Ytogcijgklnfjjaa

namespace Go.Proofs.Ytogcijgklnfjjaa
open Go Go.Eng
set_option maxRecDepth 100000
set_option linter.unusedVariables false

noncomputable def f55_raw {R : Type} (N : Nat) (x : List Int) (k : List DV → Option R) : Option R :=
 k [DV.v (SV.one (At.ints IntKind.u64 4 (lowL (lowL (lowL (lowL (lowL (lowL (lowL (lowL (lowL (lowL (lowL (lowL (lowL (lowL (lowL (lowL (fromL x)))))))))))))))))))]


noncomputable def E55 (N : Nat) : Env := { Θ := Th, Γ := G55, K := K55, ν := N55, fuel := 60, lp := [] }


theorem f55_contract (N : Nat) (hΓ : CtxOk Try.prog G55) : Contract Try.prog 55 { sig := S55, impl := fun _ ds k => call (E55 N) S55 12 B55 R55 ds k } :=
  call_contract (E := E55 N) thOk hΓ mixed ok55.look ok55.body ok55.n ok55.rv ok55.name rfl (by decide) (loopsOk_of (l := [(0, B55_0)]) (by kernel_rfl) (allOk_skip rfl trivial))
theorem f55_raw_eq {R : Type} (N : Nat) (x : List Int) (k : List DV → Option R) : call (E55 N) S55 12 B55 R55 [.v (.one (.ints .u8 32 x))] k = f55_raw N x k := by kernel_rfl
end Go.Proofs.Ytogcijgklnfjjaa

namespace Go.Eng
open Go

theorem wrapMod {k : IntKind} (hk : k.signed = false) (n : Nat) : k.wrap (n : Int) = ((n % 2 ^ k.bits : Nat) : Int) := by
  unfold IntKind.wrap
  simp only [hk, Bool.false_and, Bool.false_eq_true, if_false]
  rfl

theorem wrapFit {k : IntKind} (hk : k.signed = false) {n : Nat} (h : n < 2 ^ k.bits) : k.wrap (n : Int) = (n : Int) := by
  rw [wrapMod hk, Nat.mod_eq_of_lt h]

theorem w64 {n : Nat} (h : n < 18446744073709551616) : IntKind.u64.wrap (n : Int) = (n : Int) := wrapFit rfl h
theorem w32 {n : Nat} (h : n < 4294967296) : IntKind.u32.wrap (n : Int) = (n : Int) := wrapFit rfl h
theorem w8 {n : Nat} (h : n < 256) : IntKind.u8.wrap (n : Int) = (n : Int) := wrapFit rfl h
theorem wm64 (n : Nat) : IntKind.u64.wrap (n : Int) = ((n % 18446744073709551616 : Nat) : Int) := wrapMod rfl n
theorem wm32 (n : Nat) : IntKind.u32.wrap (n : Int) = ((n % 4294967296 : Nat) : Int) := wrapMod rfl n
theorem wm8 (n : Nat) : IntKind.u8.wrap (n : Int) = ((n % 256 : Nat) : Int) := wrapMod rfl n
theorem wi64 {n : Nat} (h : n < 9223372036854775808) : IntKind.i64.wrap (n : Int) = (n : Int) := by
  simp [IntKind.wrap, IntKind.bits, IntKind.signed]; omega

theorem shrN {k : IntKind} {m : Nat} (hm : m ≤ k.bits) (n : Nat) : shrI k (n : Int) (m : Int) = ((n / 2 ^ m : Nat) : Int) := by
  unfold shrI
  rw [Int.toNat_natCast, Nat.min_eq_left hm]
  rw [Int.fdiv_eq_ediv_of_nonneg _ (by exact Int.le_of_lt (Int.pow_pos (by decide)))]
  simp

theorem shlN {k : IntKind} (hk : k.signed = false) {m : Nat} (hm : m ≤ k.bits) (n : Nat) : shlI k (n : Int) (m : Int) = ((n * 2 ^ m % 2 ^ k.bits : Nat) : Int) := by
  unfold shlI
  rw [Int.toNat_natCast, Nat.min_eq_left hm]
  rw [show (n : Int) * 2 ^ m = ((n * 2 ^ m : Nat) : Int) by simp, wrapMod hk]

theorem bvNat {w n : Nat} (h : n < 2 ^ w) : (BitVec.ofInt w (n : Int)).toNat = n := by
  rw [BitVec.ofInt_natCast, BitVec.toNat_ofNat, Nat.mod_eq_of_lt h]

theorem andN {k : IntKind} (hk : k.signed = false) {a b : Nat} (ha : a < 2 ^ k.bits) (hb : b < 2 ^ k.bits) : andI k (a : Int) (b : Int) = ((a &&& b : Nat) : Int) := by
  unfold andI
  rw [BitVec.toNat_and, bvNat ha, bvNat hb]
  exact wrapFit hk (Nat.lt_of_le_of_lt Nat.and_le_left ha)

theorem orN {k : IntKind} (hk : k.signed = false) {a b : Nat} (ha : a < 2 ^ k.bits) (hb : b < 2 ^ k.bits) : orI k (a : Int) (b : Int) = ((a ||| b : Nat) : Int) := by
  unfold orI
  rw [BitVec.toNat_or, bvNat ha, bvNat hb]
  exact wrapFit hk (Nat.or_lt_two_pow ha hb)

theorem maskN {k : IntKind} (hk : k.signed = false) {a j : Nat} (ha : a < 2 ^ k.bits) (hj : j ≤ k.bits) : andI k (a : Int) ((2 ^ j - 1 : Nat) : Int) = ((a % 2 ^ j : Nat) : Int) := by
  rw [andN hk ha (Nat.lt_of_lt_of_le (Nat.sub_lt (Nat.two_pow_pos j) (by decide)) (Nat.pow_le_pow_right (by decide) hj)), Nat.and_two_pow_sub_one_eq_mod]

theorem or_addN {a b j : Nat} (hb : b < 2 ^ j) : (a * 2 ^ j) ||| b = a * 2 ^ j + b := by
  rw [Nat.mul_comm, Nat.two_pow_add_eq_or_of_lt hb]

theorem or_addN' {a b j : Nat} (hb : b < 2 ^ j) : b ||| (a * 2 ^ j) = b + a * 2 ^ j := by
  rw [Nat.or_comm, or_addN hb, Nat.add_comm]

def nats (l : List Nat) : List Int := l.map Int.ofNat

theorem nats_getD (l : List Nat) (i : Nat) : (nats l).getD i 0 = ((l.getD i 0 : Nat) : Int) := by
  simp only [nats, List.getD_eq_getElem?_getD, List.getElem?_map]
  cases l[i]? <;> rfl

theorem nats_set (l : List Nat) (i n : Nat) : (nats l).set i (n : Int) = nats (l.set i n) := by
  simp [nats, List.map_set]

theorem nats_length (l : List Nat) : (nats l).length = l.length := by simp [nats]

theorem nats_of {xs : List Int} (h : ∀ x ∈ xs, 0 ≤ x) : ∃ l : List Nat, xs = nats l := by
  induction xs with
  | nil => exact ⟨[], rfl⟩
  | cons x xs ih =>
    obtain ⟨l, e⟩ := ih fun y hy => h y (.tail _ hy)
    have hx := h x (.head _)
    exact ⟨x.toNat :: l, by rw [e]; simp [nats]; omega⟩

def valB (b : Nat) : List Nat → Nat
  | [] => 0
  | x :: l => x + b * valB b l

theorem valB_append (b : Nat) : ∀ (l m : List Nat), valB b (l ++ m) = valB b l + b ^ l.length * valB b m
  | [], m => by simp [valB]
  | x :: l, m => by
    rw [List.cons_append, valB, valB_append b l m, valB, List.length_cons, Nat.pow_succ]
    rw [Nat.mul_add, Nat.add_assoc, ← Nat.mul_assoc b, Nat.mul_comm b (b ^ l.length)]

theorem valB_lt {b : Nat} (hb : 0 < b) : ∀ {l : List Nat}, (∀ x ∈ l, x < b) → valB b l < b ^ l.length
  | [], _ => by simp [valB]
  | x :: l, h => by
    have h1 := h x (.head _)
    have h2 := valB_lt hb (l := l) fun y hy => h y (.tail _ hy)
    rw [valB, List.length_cons, Nat.pow_succ, Nat.mul_comm _ b]
    have h3 : b * (valB b l + 1) ≤ b * b ^ l.length := Nat.mul_le_mul_left b h2
    rw [Nat.mul_add] at h3
    omega

theorem valB_inj {b : Nat} (hb : 0 < b) : ∀ {l m : List Nat}, l.length = m.length → (∀ x ∈ l, x < b) → (∀ x ∈ m, x < b) → valB b l = valB b m → l = m
  | [], [], _, _, _, _ => rfl
  | [], _ :: _, h, _, _, _ => by simp at h
  | _ :: _, [], h, _, _, _ => by simp at h
  | x :: l, y :: m, h, h1, h2, h3 => by
    have hx := h1 x (.head _)
    have hy := h2 y (.head _)
    simp only [valB] at h3
    have e1 : (x + b * valB b l) % b = x := by rw [Nat.add_mul_mod_self_left, Nat.mod_eq_of_lt hx]
    have e2 : (y + b * valB b m) % b = y := by rw [Nat.add_mul_mod_self_left, Nat.mod_eq_of_lt hy]
    have e : x = y := by rw [← e1, ← e2, h3]
    subst e
    have h4 : valB b l = valB b m := Nat.eq_of_mul_eq_mul_left hb (by omega)
    rw [valB_inj hb (by simpa using h) (fun z hz => h1 z (.tail _ hz)) (fun z hz => h2 z (.tail _ hz)) h4]

def digs (b : Nat) : Nat → Nat → List Nat
  | 0, _ => []
  | m + 1, n => n % b :: digs b m (n / b)

theorem digs_length (b : Nat) : ∀ (m n : Nat), (digs b m n).length = m
  | 0, _ => rfl
  | m + 1, n => by simp [digs, digs_length b m]

theorem digs_val (b : Nat) : ∀ (m n : Nat), valB b (digs b m n) = n % b ^ m
  | 0, n => by simp [digs, valB, Nat.mod_one]
  | m + 1, n => by
    rw [digs, valB, digs_val b m, Nat.pow_succ, Nat.mul_comm _ b, Nat.mod_mul]

theorem digs_lt {b : Nat} (hb : 0 < b) : ∀ {m n : Nat}, ∀ x ∈ digs b m n, x < b
  | 0, _, x, h => by cases h
  | m + 1, n, x, h => by
    rcases List.mem_cons.1 h with e | h
    · subst e; exact Nat.mod_lt _ hb
    · exact digs_lt hb x h

theorem digs_of {b : Nat} (hb : 0 < b) {l : List Nat} (h : ∀ x ∈ l, x < b) : digs b l.length (valB b l) = l :=
  valB_inj hb (digs_length _ _ _) (digs_lt hb) h (by rw [digs_val, Nat.mod_eq_of_lt (valB_lt hb h)])

end Go.Eng

namespace Go.Eng
open Go

end Go.Eng

namespace Go.Eng

theorem getD_mid {α : Type} {A B : List α} {x d : α} {i : Nat} (h : A.length = i) : (A ++ x :: B).getD i d = x := by
  subst h
  simp [List.getD_eq_getElem?_getD]
theorem set_mid {α : Type} {A B : List α} {x y : α} {i : Nat} (h : A.length = i) : (A ++ x :: B).set i y = A ++ y :: B := by
  subst h
  simp

theorem valB_cons (b x : Nat) (l : List Nat) : valB b (x :: l) = x + b * valB b l := rfl

end Go.Eng

namespace Go.Proofs.Ytogcijgklnfjjaa
open Go Go.Eng
set_option maxRecDepth 100000

theorem mulLo_nat (x y : Nat) : mulLo (x : Int) (y : Int) = ((x * y % 18446744073709551616 : Nat) : Int) := wm64 (x * y)

theorem mulHi_eq (x y : Int) : mulHi x y =
    (let xl := andI .u64 x 4294967295; let xh := shrI .u64 x 32; let yl := andI .u64 y 4294967295; let yh := shrI .u64 y 32
     let t := IntKind.u64.wrap (IntKind.u64.wrap (xh * yl) + shrI .u64 (IntKind.u64.wrap (xl * yl)) 32)
     IntKind.u64.wrap (IntKind.u64.wrap (IntKind.u64.wrap (xh * yh) + shrI .u64 t 32) + shrI .u64 (IntKind.u64.wrap (andI .u64 t 4294967295 + IntKind.u64.wrap (xl * yh))) 32)) := by kernel_rfl

theorem shr32 (n : Nat) : shrI .u64 (n : Int) 32 = ((n / 4294967296 : Nat) : Int) := shrN (k := .u64) (m := 32) (by decide) n
theorem and32 {n : Nat} (h : n < 18446744073709551616) : andI .u64 (n : Int) 4294967295 = ((n % 4294967296 : Nat) : Int) := maskN (k := .u64) (j := 32) rfl h (by decide)

theorem mul32 {a b : Nat} (ha : a < 4294967296) (hb : b < 4294967296) : a * b ≤ 18446744065119617025 := by
  have : a * b ≤ 4294967295 * 4294967295 := Nat.mul_le_mul (by omega) (by omega)
  omega

theorem mulHi_nat {x y : Nat} (hx : x < 18446744073709551616) (hy : y < 18446744073709551616) : mulHi (x : Int) (y : Int) = ((x * y / 18446744073709551616 : Nat) : Int) := by
  rw [mulHi_eq]
  dsimp only
  rw [and32 hx, and32 hy, shr32, shr32]
  have exy : x * y = (x / 4294967296) * (y / 4294967296) * 18446744073709551616 + ((x / 4294967296) * (y % 4294967296) + (x % 4294967296) * (y / 4294967296)) * 4294967296 + (x % 4294967296) * (y % 4294967296) := by
    have ex := Nat.div_add_mod x 4294967296
    have ey := Nat.div_add_mod y 4294967296
    generalize x / 4294967296 = a at *
    generalize x % 4294967296 = b at *
    generalize y / 4294967296 = c at *
    generalize y % 4294967296 = d at *
    rw [← ex, ← ey, Nat.add_mul, Nat.mul_add, Nat.mul_add]
    have e1 : 4294967296 * a * (4294967296 * c) = a * c * 18446744073709551616 := by
      rw [Nat.mul_mul_mul_comm]; omega
    have e2 : 4294967296 * a * d = a * d * 4294967296 := by rw [Nat.mul_assoc]; omega
    have e3 : b * (4294967296 * c) = b * c * 4294967296 := by rw [Nat.mul_left_comm]; omega
    rw [e1, e2, e3, Nat.add_mul]; omega
  rw [exy]
  have hxh : x / 4294967296 < 4294967296 := by omega
  have hyh : y / 4294967296 < 4294967296 := by omega
  have hxl := Nat.mod_lt x (show 4294967296 > 0 by decide)
  have hyl := Nat.mod_lt y (show 4294967296 > 0 by decide)
  have b1 := mul32 hxl hyl
  have b2 := mul32 hxh hyl
  have b3 := mul32 hxl hyh
  have b4 := mul32 hxh hyh
  generalize x / 4294967296 = a at *
  generalize x % 4294967296 = b at *
  generalize y / 4294967296 = c at *
  generalize y % 4294967296 = d at *
  have w1 : IntKind.u64.wrap ((b : Int) * (d : Int)) = ((b * d : Nat) : Int) := w64 (n := b * d) (by omega)
  have w2 : IntKind.u64.wrap ((a : Int) * (d : Int)) = ((a * d : Nat) : Int) := w64 (n := a * d) (by omega)
  have w3 : IntKind.u64.wrap ((b : Int) * (c : Int)) = ((b * c : Nat) : Int) := w64 (n := b * c) (by omega)
  have w4 : IntKind.u64.wrap ((a : Int) * (c : Int)) = ((a * c : Nat) : Int) := w64 (n := a * c) (by omega)
  rw [w1, w2, w3, w4]
  generalize b * d = P at *
  generalize a * d = Q at *
  generalize b * c = U at *
  generalize a * c = V at *
  rw [shr32, show IntKind.u64.wrap ((Q : Int) + ((P / 4294967296 : Nat) : Int)) = ((Q + P / 4294967296 : Nat) : Int) from w64 (n := Q + P / 4294967296) (by omega)]
  rw [shr32, and32 (by omega)]
  rw [show IntKind.u64.wrap ((V : Int) + (((Q + P / 4294967296) / 4294967296 : Nat) : Int)) = ((V + (Q + P / 4294967296) / 4294967296 : Nat) : Int) from w64 (n := V + (Q + P / 4294967296) / 4294967296) (by omega)]
  rw [show IntKind.u64.wrap ((((Q + P / 4294967296) % 4294967296 : Nat) : Int) + (U : Int)) = (((Q + P / 4294967296) % 4294967296 + U : Nat) : Int) from w64 (n := (Q + P / 4294967296) % 4294967296 + U) (by omega)]
  rw [shr32]
  refine (w64 (n := V + (Q + P / 4294967296) / 4294967296 + ((Q + P / 4294967296) % 4294967296 + U) / 4294967296) (by omega)).trans ?_
  congr 1
  omega

theorem addLo_nat (x y c : Nat) : addLo (x : Int) (y : Int) (c : Int) = (((x + y + c) % 18446744073709551616 : Nat) : Int) := by
  unfold addLo; simp
theorem addHi_nat (x y c : Nat) : addHi (x : Int) (y : Int) (c : Int) = (((x + y + c) / 18446744073709551616 : Nat) : Int) := by
  unfold addHi; simp


theorem ma_nat {x y z c : Nat} (hx : x < 18446744073709551616) (hy : y < 18446744073709551616) (hz : z < 18446744073709551616) (hc : c < 18446744073709551616) :
    maLo (x : Int) (y : Int) (z : Int) (c : Int) = (((x * y + z + c) % 18446744073709551616 : Nat) : Int) ∧ maHi (x : Int) (y : Int) (z : Int) (c : Int) = (((x * y + z + c) / 18446744073709551616 : Nat) : Int) := by
  have hp : x * y ≤ 18446744073709551615 * 18446744073709551615 := Nat.mul_le_mul (by omega) (by omega)
  unfold maLo maHi
  rw [mulLo_nat, mulHi_nat hx hy, show (0 : Int) = ((0 : Nat) : Int) from rfl, addLo_nat, addHi_nat, addLo_nat, addHi_nat]
  generalize x * y = P at *
  rw [show IntKind.u64.wrap (((P / 18446744073709551616 : Nat) : Int) + (((P % 18446744073709551616 + z + 0) / 18446744073709551616 : Nat) : Int)) = ((P / 18446744073709551616 + (P % 18446744073709551616 + z + 0) / 18446744073709551616 : Nat) : Int) from w64 (n := P / 18446744073709551616 + (P % 18446744073709551616 + z + 0) / 18446744073709551616) (by omega)]
  refine ⟨congrArg Int.ofNat (by omega), ?_⟩
  refine (w64 (n := P / 18446744073709551616 + (P % 18446744073709551616 + z + 0) / 18446744073709551616 + ((P % 18446744073709551616 + z + 0) % 18446744073709551616 + c + 0) / 18446744073709551616) (by omega)).trans ?_
  exact congrArg Int.ofNat (by omega)

theorem sub_nat {x y c : Nat} (hx : x < 18446744073709551616) (hy : y < 18446744073709551616) (hc : c ≤ 1) :
    ∃ d b : Nat, subLo (x : Int) (y : Int) (c : Int) = (d : Int) ∧ subHi (x : Int) (y : Int) (c : Int) = (b : Int) ∧ d < 18446744073709551616 ∧ b ≤ 1 ∧ d + y + c = x + 18446744073709551616 * b := by
  refine ⟨(x + 18446744073709551616 - y - c) % 18446744073709551616, if x < y + c then 1 else 0, ?_, ?_, Nat.mod_lt _ (by decide), by split <;> omega, by split <;> omega⟩
  · unfold subLo; simp
  · unfold subHi
    simp only [Int.toNat_natCast]
    by_cases h : x < y + c
    · rw [if_pos h, show Nat.blt x (y + c) = true from Nat.ble_eq_true_of_le h]; rfl
    · rw [if_neg h]
      have : Nat.blt x (y + c) = false := by
        cases e : Nat.blt x (y + c)
        · rfl
        · exact absurd (Nat.le_of_ble_eq_true e) h
      rw [this]; rfl

theorem orW {a b : Nat} (j : Nat) (hj : j ≤ 64) (ha : a < 2 ^ j) : orI .u64 (a : Int) (shlI .u64 (b : Int) (j : Int)) = ((a + b % 2 ^ (64 - j) * 2 ^ j : Nat) : Int) := by
  rw [show shlI .u64 (b : Int) (j : Int) = ((b * 2 ^ j % 2 ^ 64 : Nat) : Int) from shlN (k := .u64) rfl hj b]
  have e : b * 2 ^ j % 2 ^ 64 = b % 2 ^ (64 - j) * 2 ^ j := by
    rw [show (2 : Nat) ^ 64 = 2 ^ (64 - j) * 2 ^ j by rw [← Nat.pow_add]; congr 1; omega, Nat.mul_mod_mul_right]
  have h2 : (2 : Nat) ^ j ≤ 2 ^ 64 := Nat.pow_le_pow_right (by decide) hj
  refine (orN (k := .u64) rfl (Nat.lt_of_lt_of_le ha h2) (Nat.mod_lt _ (Nat.two_pow_pos 64))).trans ?_
  rw [show IntKind.u64.bits = 64 from rfl, e, or_addN' ha]

def bytesW (w0 w1 w2 w3 : Int) : List Int := [IntKind.u8.wrap (shrI .u64 w0 0), IntKind.u8.wrap (shrI .u64 w0 8), IntKind.u8.wrap (shrI .u64 w0 16), IntKind.u8.wrap (shrI .u64 w0 24), IntKind.u8.wrap (shrI .u64 w0 32), IntKind.u8.wrap (shrI .u64 w0 40), IntKind.u8.wrap (shrI .u64 w0 48), IntKind.u8.wrap (shrI .u64 w0 56), IntKind.u8.wrap (shrI .u64 w1 0), IntKind.u8.wrap (shrI .u64 w1 8), IntKind.u8.wrap (shrI .u64 w1 16), IntKind.u8.wrap (shrI .u64 w1 24), IntKind.u8.wrap (shrI .u64 w1 32), IntKind.u8.wrap (shrI .u64 w1 40), IntKind.u8.wrap (shrI .u64 w1 48), IntKind.u8.wrap (shrI .u64 w1 56), IntKind.u8.wrap (shrI .u64 w2 0), IntKind.u8.wrap (shrI .u64 w2 8), IntKind.u8.wrap (shrI .u64 w2 16), IntKind.u8.wrap (shrI .u64 w2 24), IntKind.u8.wrap (shrI .u64 w2 32), IntKind.u8.wrap (shrI .u64 w2 40), IntKind.u8.wrap (shrI .u64 w2 48), IntKind.u8.wrap (shrI .u64 w2 56), IntKind.u8.wrap (shrI .u64 w3 0), IntKind.u8.wrap (shrI .u64 w3 8), IntKind.u8.wrap (shrI .u64 w3 16), IntKind.u8.wrap (shrI .u64 w3 24), IntKind.u8.wrap (shrI .u64 w3 32), IntKind.u8.wrap (shrI .u64 w3 40), IntKind.u8.wrap (shrI .u64 w3 48), IntKind.u8.wrap (shrI .u64 w3 56)]
theorem byteW (w i : Nat) (hi : i ≤ 64) : IntKind.u8.wrap (shrI .u64 (w : Int) (i : Int)) = ((w / 2 ^ i % 256 : Nat) : Int) := by
  rw [shrN (k := .u64) hi, wm8]
theorem digs32 (v : Nat) : digs 256 32 v = [v / 1 % 256, v / 256 % 256, v / 65536 % 256, v / 16777216 % 256, v / 4294967296 % 256, v / 1099511627776 % 256, v / 281474976710656 % 256, v / 72057594037927936 % 256, v / 18446744073709551616 % 256, v / 4722366482869645213696 % 256, v / 1208925819614629174706176 % 256, v / 309485009821345068724781056 % 256, v / 79228162514264337593543950336 % 256, v / 20282409603651670423947251286016 % 256, v / 5192296858534827628530496329220096 % 256, v / 1329227995784915872903807060280344576 % 256, v / 340282366920938463463374607431768211456 % 256, v / 87112285931760246646623899502532662132736 % 256, v / 22300745198530623141535718272648361505980416 % 256, v / 5708990770823839524233143877797980545530986496 % 256, v / 1461501637330902918203684832716283019655932542976 % 256, v / 374144419156711147060143317175368453031918731001856 % 256, v / 95780971304118053647396689196894323976171195136475136 % 256, v / 24519928653854221733733552434404946937899825954937634816 % 256, v / 6277101735386680763835789423207666416102355444464034512896 % 256, v / 1606938044258990275541962092341162602522202993782792835301376 % 256, v / 411376139330301510538742295639337626245683966408394965837152256 % 256, v / 105312291668557186697918027683670432318895095400549111254310977536 % 256, v / 26959946667150639794667015087019630673637144422540572481103610249216 % 256, v / 6901746346790563787434755862277025452451108972170386555162524223799296 % 256, v / 1766847064778384329583297500742918515827483896875618958121606201292619776 % 256, v / 452312848583266388373324160190187140051835877600158453279131187530910662656 % 256] := by
  simp [digs, Nat.div_div_eq_div_mul]
def word8 (x0 x1 x2 x3 x4 x5 x6 x7 : Int) : Int := (orI .u64 (orI .u64 (orI .u64 (orI .u64 (orI .u64 (orI .u64 (orI .u64 (orI .u64 0 (shlI .u64 (IntKind.u64.wrap x0) 0)) (shlI .u64 (IntKind.u64.wrap x1) 8)) (shlI .u64 (IntKind.u64.wrap x2) 16)) (shlI .u64 (IntKind.u64.wrap x3) 24)) (shlI .u64 (IntKind.u64.wrap x4) 32)) (shlI .u64 (IntKind.u64.wrap x5) 40)) (shlI .u64 (IntKind.u64.wrap x6) 48)) (shlI .u64 (IntKind.u64.wrap x7) 56))
theorem word8_nat {x0 x1 x2 x3 x4 x5 x6 x7 : Nat} (h0 : x0 < 256) (h1 : x1 < 256) (h2 : x2 < 256) (h3 : x3 < 256) (h4 : x4 < 256) (h5 : x5 < 256) (h6 : x6 < 256) (h7 : x7 < 256) :
    word8 (x0 : Int) (x1 : Int) (x2 : Int) (x3 : Int) (x4 : Int) (x5 : Int) (x6 : Int) (x7 : Int) = ((x0 * 1 + x1 * 256 + x2 * 65536 + x3 * 16777216 + x4 * 4294967296 + x5 * 1099511627776 + x6 * 281474976710656 + x7 * 72057594037927936 : Nat) : Int) := by
  unfold word8
  rw [w64 (n := x0) (by omega), w64 (n := x1) (by omega), w64 (n := x2) (by omega), w64 (n := x3) (by omega), w64 (n := x4) (by omega), w64 (n := x5) (by omega), w64 (n := x6) (by omega), w64 (n := x7) (by omega)]
  rw [show (0 : Int) = ((0 : Nat) : Int) from rfl]
  rw [show orI .u64 ((0 : Nat) : Int) (shlI .u64 (x0 : Int) ((0 : Nat) : Int)) = ((0 + x0 * 1 : Nat) : Int) from (orW 0 (by decide) (by omega)).trans (congrArg Int.ofNat (show 0 + x0 % 18446744073709551616 * 1 = 0 + x0 * 1 by omega))]
  rw [show orI .u64 ((0 + x0 * 1 : Nat) : Int) (shlI .u64 (x1 : Int) 8) = ((0 + x0 * 1 + x1 * 256 : Nat) : Int) from (orW 8 (by decide) (by omega)).trans (congrArg Int.ofNat (show 0 + x0 * 1 + x1 % 72057594037927936 * 256 = 0 + x0 * 1 + x1 * 256 by omega))]
  rw [show orI .u64 ((0 + x0 * 1 + x1 * 256 : Nat) : Int) (shlI .u64 (x2 : Int) 16) = ((0 + x0 * 1 + x1 * 256 + x2 * 65536 : Nat) : Int) from (orW 16 (by decide) (by omega)).trans (congrArg Int.ofNat (show 0 + x0 * 1 + x1 * 256 + x2 % 281474976710656 * 65536 = 0 + x0 * 1 + x1 * 256 + x2 * 65536 by omega))]
  rw [show orI .u64 ((0 + x0 * 1 + x1 * 256 + x2 * 65536 : Nat) : Int) (shlI .u64 (x3 : Int) 24) = ((0 + x0 * 1 + x1 * 256 + x2 * 65536 + x3 * 16777216 : Nat) : Int) from (orW 24 (by decide) (by omega)).trans (congrArg Int.ofNat (show 0 + x0 * 1 + x1 * 256 + x2 * 65536 + x3 % 1099511627776 * 16777216 = 0 + x0 * 1 + x1 * 256 + x2 * 65536 + x3 * 16777216 by omega))]
  rw [show orI .u64 ((0 + x0 * 1 + x1 * 256 + x2 * 65536 + x3 * 16777216 : Nat) : Int) (shlI .u64 (x4 : Int) 32) = ((0 + x0 * 1 + x1 * 256 + x2 * 65536 + x3 * 16777216 + x4 * 4294967296 : Nat) : Int) from (orW 32 (by decide) (by omega)).trans (congrArg Int.ofNat (show 0 + x0 * 1 + x1 * 256 + x2 * 65536 + x3 * 16777216 + x4 % 4294967296 * 4294967296 = 0 + x0 * 1 + x1 * 256 + x2 * 65536 + x3 * 16777216 + x4 * 4294967296 by omega))]
  rw [show orI .u64 ((0 + x0 * 1 + x1 * 256 + x2 * 65536 + x3 * 16777216 + x4 * 4294967296 : Nat) : Int) (shlI .u64 (x5 : Int) 40) = ((0 + x0 * 1 + x1 * 256 + x2 * 65536 + x3 * 16777216 + x4 * 4294967296 + x5 * 1099511627776 : Nat) : Int) from (orW 40 (by decide) (by omega)).trans (congrArg Int.ofNat (show 0 + x0 * 1 + x1 * 256 + x2 * 65536 + x3 * 16777216 + x4 * 4294967296 + x5 % 16777216 * 1099511627776 = 0 + x0 * 1 + x1 * 256 + x2 * 65536 + x3 * 16777216 + x4 * 4294967296 + x5 * 1099511627776 by omega))]
  rw [show orI .u64 ((0 + x0 * 1 + x1 * 256 + x2 * 65536 + x3 * 16777216 + x4 * 4294967296 + x5 * 1099511627776 : Nat) : Int) (shlI .u64 (x6 : Int) 48) = ((0 + x0 * 1 + x1 * 256 + x2 * 65536 + x3 * 16777216 + x4 * 4294967296 + x5 * 1099511627776 + x6 * 281474976710656 : Nat) : Int) from (orW 48 (by decide) (by omega)).trans (congrArg Int.ofNat (show 0 + x0 * 1 + x1 * 256 + x2 * 65536 + x3 * 16777216 + x4 * 4294967296 + x5 * 1099511627776 + x6 % 65536 * 281474976710656 = 0 + x0 * 1 + x1 * 256 + x2 * 65536 + x3 * 16777216 + x4 * 4294967296 + x5 * 1099511627776 + x6 * 281474976710656 by omega))]
  rw [show orI .u64 ((0 + x0 * 1 + x1 * 256 + x2 * 65536 + x3 * 16777216 + x4 * 4294967296 + x5 * 1099511627776 + x6 * 281474976710656 : Nat) : Int) (shlI .u64 (x7 : Int) 56) = ((0 + x0 * 1 + x1 * 256 + x2 * 65536 + x3 * 16777216 + x4 * 4294967296 + x5 * 1099511627776 + x6 * 281474976710656 + x7 * 72057594037927936 : Nat) : Int) from (orW 56 (by decide) (by omega)).trans (congrArg Int.ofNat (show 0 + x0 * 1 + x1 * 256 + x2 * 65536 + x3 * 16777216 + x4 * 4294967296 + x5 * 1099511627776 + x6 * 281474976710656 + x7 % 256 * 72057594037927936 = 0 + x0 * 1 + x1 * 256 + x2 * 65536 + x3 * 16777216 + x4 * 4294967296 + x5 * 1099511627776 + x6 * 281474976710656 + x7 * 72057594037927936 by omega))]
  congr 1; omega

theorem len32 {l : List Nat} (h : l.length = 32) : ∃ x0 x1 x2 x3 x4 x5 x6 x7 x8 x9 x10 x11 x12 x13 x14 x15 x16 x17 x18 x19 x20 x21 x22 x23 x24 x25 x26 x27 x28 x29 x30 x31, l = [x0, x1, x2, x3, x4, x5, x6, x7, x8, x9, x10, x11, x12, x13, x14, x15, x16, x17, x18, x19, x20, x21, x22, x23, x24, x25, x26, x27, x28, x29, x30, x31] := by
  match l, h with
  | [x0, x1, x2, x3, x4, x5, x6, x7, x8, x9, x10, x11, x12, x13, x14, x15, x16, x17, x18, x19, x20, x21, x22, x23, x24, x25, x26, x27, x28, x29, x30, x31], _ => exact ⟨x0, x1, x2, x3, x4, x5, x6, x7, x8, x9, x10, x11, x12, x13, x14, x15, x16, x17, x18, x19, x20, x21, x22, x23, x24, x25, x26, x27, x28, x29, x30, x31, rfl⟩


end Go.Proofs.Ytogcijgklnfjjaa

namespace Go.Proofs.Ytogcijgklnfjjaa
open Go Go.Eng
set_option maxRecDepth 100000

noncomputable def stk {α : Type} (a : α) : { b : α // b = a } := Classical.choice ⟨⟨a, rfl⟩⟩
@[irreducible] def ell : Nat := 7237005577332262213973186563042994240857116359379907606001950938285454250989
def WW : Nat := 18446744073709551616
def okW (x : List Int) : Bool := decide (x.length = 4) && x.all (fun b => decide (0 ≤ b) && decide (b < 18446744073709551616))
def nW (x : List Int) : Nat := valB WW (x.map Int.toNat)
noncomputable def wN : Nat → List Int := (stk fun v => nats (digs WW 4 v)).1
theorem wN_def (v : Nat) : wN v = nats (digs WW 4 v) := congrFun (stk fun v => nats (digs WW 4 v)).2 v
theorem W4 : WW ^ 4 = 115792089237316195423570985008687907853269984665640564039457584007913129639936 := by decide +kernel

theorem nats_toNat (l : List Nat) : (nats l).map Int.toNat = l := by
  unfold nats; rw [List.map_map]; conv => rhs; rw [← List.map_id l]
  rfl
theorem okW_nats {l : List Nat} (hl : l.length = 4) (h : ∀ b ∈ l, b < WW) : okW (nats l) = true := by
  unfold okW
  rw [nats_length, decide_eq_true hl, Bool.true_and, List.all_eq_true]
  intro b hb
  unfold nats at hb
  obtain ⟨n, hn, rfl⟩ := List.mem_map.mp hb
  have := h n hn
  rw [Bool.and_eq_true]
  exact ⟨decide_eq_true (Int.natCast_nonneg n), decide_eq_true (Int.ofNat_lt.mpr this)⟩
theorem okW_of {x : List Int} (h : okW x = true) : ∃ l : List Nat, x = nats l ∧ l.length = 4 ∧ ∀ b ∈ l, b < WW := by
  unfold okW at h
  rw [Bool.and_eq_true, List.all_eq_true] at h
  obtain ⟨h1, h2⟩ := h
  have h3 : ∀ b ∈ x, 0 ≤ b ∧ b < 18446744073709551616 := fun b hb => by
    have := h2 b hb
    rw [Bool.and_eq_true] at this
    exact ⟨of_decide_eq_true this.1, of_decide_eq_true this.2⟩
  obtain ⟨l, rfl⟩ := nats_of (xs := x) fun b hb => (h3 b hb).1
  refine ⟨l, rfl, by rw [← nats_length]; exact of_decide_eq_true h1, fun b hb => ?_⟩
  exact Int.ofNat_lt.mp (h3 b (List.mem_map.mpr ⟨b, hb, rfl⟩)).2
theorem okW_wN (v : Nat) : okW (wN v) = true := by
  rw [wN_def]; exact okW_nats (digs_length _ _ _) (digs_lt (by decide))
theorem nW_nats (l : List Nat) : nW (nats l) = valB WW l := by unfold nW; rw [nats_toNat]
theorem nW_wN {v : Nat} (h : v < WW ^ 4) : nW (wN v) = v := by rw [wN_def, nW_nats, digs_val, Nat.mod_eq_of_lt h]
theorem wN_nW {x : List Int} (h : okW x = true) : wN (nW x) = x := by
  obtain ⟨l, rfl, h1, h2⟩ := okW_of h
  rw [nW_nats, wN_def, ← h1, digs_of (by decide) h2]
theorem nW_lt {x : List Int} (h : okW x = true) : nW x < WW ^ 4 := by
  obtain ⟨l, rfl, h1, h2⟩ := okW_of h
  rw [nW_nats, ← h1]; exact valB_lt (by decide) h2
theorem wN_of {x : List Int} {l : List Nat} {v : Nat} (e : x = nats l) (h1 : l.length = 4) (h2 : ∀ b ∈ l, b < WW) (hv : valB WW l = v) : x = wN v := by
  rw [e, wN_def, ← hv, ← h1, digs_of (by decide) h2]
theorem nW_inj {a b : Nat} (ha : a < WW ^ 4) (hb : b < WW ^ 4) : wN a = wN b ↔ a = b := by
  constructor
  · intro h; rw [← nW_wN ha, ← nW_wN hb, h]
  · intro h; rw [h]
theorem w4_nats {l : List Nat} (h : l.length = 4) : w4 (nats l) = nats l := by
  match l, h with
  | [a, b, c, d], _ => rfl

theorem less_nat : ∀ (l m : List Nat) (c : Nat), l.length = m.length → (∀ x ∈ l, x < WW) → (∀ x ∈ m, x < WW) → c ≤ 1 →
    ∃ (d : List Nat) (b : Nat), lessD (nats l) (nats m) (c : Int) = nats d ∧ lessB (nats l) (nats m) (c : Int) = (b : Int) ∧ d.length = l.length ∧ (∀ x ∈ d, x < WW) ∧ b ≤ 1 ∧ valB WW d + valB WW m + c = valB WW l + WW ^ l.length * b
  | [], [], c, _, _, _, hc => ⟨[], c, rfl, rfl, rfl, by simp, hc, by simp [valB]⟩
  | x :: l, y :: m, c, hl, h1, h2, hc => by
    obtain ⟨d, b, e1, e2, hd, hb, he⟩ := sub_nat (x := x) (y := y) (c := c) (h1 x (by simp)) (h2 y (by simp)) hc
    obtain ⟨ds, b', g1, g2, g3, g4, g5, g6⟩ := less_nat l m b (by simpa using hl) (fun z hz => h1 z (by simp [hz])) (fun z hz => h2 z (by simp [hz])) hb
    refine ⟨d :: ds, b', ?_, ?_, by simp [g3], ?_, g5, ?_⟩
    · show subLo (x : Int) (y : Int) (c : Int) :: lessD (nats l) (nats m) (subHi (x : Int) (y : Int) (c : Int)) = _
      rw [e1, e2, g1]; rfl
    · show lessB (nats l) (nats m) (subHi (x : Int) (y : Int) (c : Int)) = _
      rw [e2, g2]
    · intro z hz
      rcases List.mem_cons.mp hz with rfl | hz
      · exact hd
      · exact g4 z hz
    · simp only [valB, List.length_cons, Nat.pow_succ]
      rw [Nat.mul_comm (WW ^ l.length) WW, Nat.mul_assoc]
      generalize WW ^ l.length * b' = P at *
      unfold WW at *
      omega
  | [], _ :: _, _, h, _, _, _ => by simp at h
  | _ :: _, [], _, h, _, _, _ => by simp at h

theorem less_num {x y : List Int} (hx : okW x = true) (hy : okW y = true) :
    lessL x y = wN ((nW x + WW ^ 4 - nW y) % WW ^ 4) ∧ under x y = if nW x < nW y then 1 else 0 := by
  have bx := nW_lt hx
  have by_ := nW_lt hy
  obtain ⟨l, rfl, h1, h2⟩ := okW_of hx
  obtain ⟨m, rfl, h3, h4⟩ := okW_of hy
  obtain ⟨d, b, e1, e2, hd, hb, hb1, he⟩ := less_nat l m 0 (by rw [h1, h3]) h2 h4 (by decide)
  unfold lessL under
  rw [w4_nats h1, w4_nats h3]
  rw [show lessD (nats l) (nats m) 0 = nats d from e1, show lessB (nats l) (nats m) 0 = (b : Int) from e2]
  rw [nW_nats] at *
  rw [nW_nats] at *
  have hdl := valB_lt (b := WW) (by decide) hb
  rw [hd] at hdl
  rw [h1] at hdl he
  generalize valB WW l = A at *
  generalize valB WW m = B at *
  have hh : d.length = 4 := by rw [hd, h1]
  rcases (show b = 0 ∨ b = 1 by omega) with rfl | rfl
  · rw [Nat.mul_zero] at he
    have hlt : ¬ A < B := by omega
    rw [if_neg hlt]
    refine ⟨wN_of rfl hh hb ?_, rfl⟩
    rw [show A + WW ^ 4 - B = (A - B) + WW ^ 4 by omega, Nat.add_mod_right, Nat.mod_eq_of_lt (by omega)]
    omega
  · rw [Nat.mul_one] at he
    have hlt : A < B := by omega
    rw [if_pos hlt]
    refine ⟨wN_of rfl hh hb ?_, rfl⟩
    rw [Nat.mod_eq_of_lt (by omega)]
    omega

theorem ordW_ok : okW ordW = true := by decide
theorem ordW_num : nW ordW = ell := by decide +kernel
theorem ell_lt : ell < WW ^ 4 := by decide +kernel
theorem radW_ok : okW radW = true := by decide
theorem radW_num : nW radW = WW ^ 8 % ell := by decide +kernel

def lw (v : Nat) : Nat := if v < ell then v else v - ell
theorem lw_lt (v : Nat) : lw v ≤ v := by unfold lw; split <;> omega
theorem low_num {x : List Int} (hx : okW x = true) : lowL x = wN (lw (nW x)) := by
  have h := less_num hx ordW_ok
  have hb := nW_lt hx
  unfold lowL lw
  rw [h.1, h.2, ordW_num]
  by_cases hlt : nW x < ell
  · rw [if_pos hlt, if_pos hlt]
    exact (wN_nW hx).symm
  · have e : (nW x + WW ^ 4 - ell) % WW ^ 4 = nW x - ell := by
      rw [show nW x + WW ^ 4 - ell = (nW x - ell) + WW ^ 4 by omega, Nat.add_mod_right, Nat.mod_eq_of_lt (by omega)]
    rw [if_neg hlt, if_neg hlt, show ((0 : Int) == 0) = true from rfl, cond_true, e]
theorem low_wN {v : Nat} (h : v < WW ^ 4) : lowL (wN v) = wN (lw v) := by
  rw [low_num (okW_wN v), nW_wN h]
end Go.Proofs.Ytogcijgklnfjjaa

namespace Go.Proofs.Ytogcijgklnfjjaa
open Go Go.Eng
set_option maxRecDepth 100000

theorem ell_def : ell = 7237005577332262213973186563042994240857116359379907606001950938285454250989 := by unfold ell; rfl
def lwN : Nat → Nat → Nat
  | 0, v => v
  | k + 1, v => lw (lwN k v)
theorem lwN_mod : ∀ (k v : Nat), v < (k + 1) * ell → lwN k v % ell = v % ell ∧ lwN k v < ell + (v - k * ell)
  | 0, v, h => ⟨rfl, by show v < _; have : 0 < ell := by rw [ell_def]; decide
                        omega⟩
  | k + 1, v, h => by
    have h0 : 0 < ell := by rw [ell_def]; decide
    by_cases hv : v < (k + 1) * ell
    · obtain ⟨h1, h2⟩ := lwN_mod k v hv
      have e : v - k * ell < ell := by rw [Nat.add_mul] at hv; omega
      show lw (lwN k v) % ell = _ ∧ lw (lwN k v) < _
      unfold lw
      split
      · rename_i hl
        exact ⟨h1, by omega⟩
      · rename_i hl
        refine ⟨?_, by omega⟩
        rw [← Nat.mod_eq_sub_mod (by omega)]; exact h1
    · have aux : ∀ (j : Nat) (v : Nat), j * ell ≤ v → lwN j v = v - j * ell := by
        intro j
        induction j with
        | zero => intro v _; simp [lwN]
        | succ j ih =>
          intro v hj
          have hj' : j * ell + ell ≤ v := by rw [Nat.add_mul] at hj; omega
          show lw (lwN j v) = _
          rw [ih v (by omega)]
          unfold lw
          rw [if_neg (by omega), Nat.add_mul]
          omega
      have e1 := aux (k + 1) v (by omega)
      rw [e1]
      have hm : (v - (k + 1) * ell) % ell = v % ell := by
        conv => rhs; rw [show v = (v - (k + 1) * ell) + (k + 1) * ell by omega]
        rw [Nat.add_mul_mod_self_right]
      exact ⟨hm, by omega⟩
theorem lwN_16 {v : Nat} (h : v < WW ^ 4) : lwN 16 v = v % ell := by
  have h0 : WW ^ 4 ≤ 16 * ell := by rw [W4, ell_def]; decide
  have := lwN_mod 16 v (by rw [Nat.add_mul]; omega)
  rw [← this.1, Nat.mod_eq_of_lt (by omega)]

def okB (x : List Int) : Bool := decide (x.length = 32) && x.all (fun b => decide (0 ≤ b) && decide (b < 256))
def numB (x : List Int) : Nat := valB 256 (x.map Int.toNat)
noncomputable def sN : Nat → List Int := (stk fun v => nats (digs 256 32 v)).1
theorem sN_def (v : Nat) : sN v = nats (digs 256 32 v) := congrFun (stk fun v => nats (digs 256 32 v)).2 v
theorem W4B : WW ^ 4 = 256 ^ 32 := by decide +kernel
theorem okB_nats {l : List Nat} (hl : l.length = 32) (h : ∀ b ∈ l, b < 256) : okB (nats l) = true := by
  unfold okB
  rw [nats_length, decide_eq_true hl, Bool.true_and, List.all_eq_true]
  intro b hb
  unfold nats at hb
  obtain ⟨n, hn, rfl⟩ := List.mem_map.mp hb
  have := h n hn
  rw [Bool.and_eq_true]
  exact ⟨decide_eq_true (Int.natCast_nonneg n), decide_eq_true (Int.ofNat_lt.mpr this)⟩
theorem okB_sN (v : Nat) : okB (sN v) = true := by
  rw [sN_def]; exact okB_nats (digs_length _ _ _) (digs_lt (by decide))
theorem numB_nats (l : List Nat) : numB (nats l) = valB 256 l := by unfold numB; rw [nats_toNat]
theorem numB_sN {v : Nat} (h : v < WW ^ 4) : numB (sN v) = v := by rw [sN_def, numB_nats, digs_val, ← W4B, Nat.mod_eq_of_lt h]
theorem okB_of {x : List Int} (h : okB x = true) : ∃ l : List Nat, x = nats l ∧ l.length = 32 ∧ ∀ b ∈ l, b < 256 := by
  unfold okB at h
  rw [Bool.and_eq_true, List.all_eq_true] at h
  obtain ⟨h1, h2⟩ := h
  have h3 : ∀ b ∈ x, 0 ≤ b ∧ b < 256 := fun b hb => by
    have := h2 b hb
    rw [Bool.and_eq_true] at this
    exact ⟨of_decide_eq_true this.1, of_decide_eq_true this.2⟩
  obtain ⟨l, rfl⟩ := nats_of (xs := x) fun b hb => (h3 b hb).1
  refine ⟨l, rfl, by rw [← nats_length]; exact of_decide_eq_true h1, fun b hb => ?_⟩
  exact Int.ofNat_lt.mp (h3 b (List.mem_map.mpr ⟨b, hb, rfl⟩)).2
theorem numB_lt {x : List Int} (h : okB x = true) : numB x < WW ^ 4 := by
  obtain ⟨l, rfl, h1, h2⟩ := okB_of h
  rw [numB_nats, W4B]
  have := valB_lt (b := 256) (by decide) h2
  rw [h1] at this
  exact this
theorem from_eq (x0 x1 x2 x3 x4 x5 x6 x7 x8 x9 x10 x11 x12 x13 x14 x15 x16 x17 x18 x19 x20 x21 x22 x23 x24 x25 x26 x27 x28 x29 x30 x31 : Int) : fromR [x0, x1, x2, x3, x4, x5, x6, x7, x8, x9, x10, x11, x12, x13, x14, x15, x16, x17, x18, x19, x20, x21, x22, x23, x24, x25, x26, x27, x28, x29, x30, x31] = [word8 x0 x1 x2 x3 x4 x5 x6 x7, word8 x8 x9 x10 x11 x12 x13 x14 x15, word8 x16 x17 x18 x19 x20 x21 x22 x23, word8 x24 x25 x26 x27 x28 x29 x30 x31] := by kernel_rfl
theorem from_nats {l : List Nat} (hl : l.length = 32) (hb : ∀ x ∈ l, x < 256) : fromL (nats l) = wN (valB 256 l) := by
  obtain ⟨x0, x1, x2, x3, x4, x5, x6, x7, x8, x9, x10, x11, x12, x13, x14, x15, x16, x17, x18, x19, x20, x21, x22, x23, x24, x25, x26, x27, x28, x29, x30, x31, rfl⟩ := len32 hl
  simp only [List.mem_cons, List.not_mem_nil, or_false, forall_eq_or_imp, forall_eq] at hb
  obtain ⟨h0, h1, h2, h3, h4, h5, h6, h7, h8, h9, h10, h11, h12, h13, h14, h15, h16, h17, h18, h19, h20, h21, h22, h23, h24, h25, h26, h27, h28, h29, h30, h31⟩ := hb
  rw [fromL_eq]
  refine (from_eq (x0 : Int) (x1 : Int) (x2 : Int) (x3 : Int) (x4 : Int) (x5 : Int) (x6 : Int) (x7 : Int) (x8 : Int) (x9 : Int) (x10 : Int) (x11 : Int) (x12 : Int) (x13 : Int) (x14 : Int) (x15 : Int) (x16 : Int) (x17 : Int) (x18 : Int) (x19 : Int) (x20 : Int) (x21 : Int) (x22 : Int) (x23 : Int) (x24 : Int) (x25 : Int) (x26 : Int) (x27 : Int) (x28 : Int) (x29 : Int) (x30 : Int) (x31 : Int)).trans ?_
  rw [word8_nat h0 h1 h2 h3 h4 h5 h6 h7, word8_nat h8 h9 h10 h11 h12 h13 h14 h15, word8_nat h16 h17 h18 h19 h20 h21 h22 h23, word8_nat h24 h25 h26 h27 h28 h29 h30 h31]
  refine wN_of (l := [_, _, _, _]) rfl rfl ?_ ?_
  · simp only [List.mem_cons, List.not_mem_nil, or_false, forall_eq_or_imp, forall_eq]
    unfold WW
    omega
  · simp only [valB, WW]
    omega
theorem from_num {x : List Int} (h : okB x = true) : fromL x = wN (numB x) := by
  obtain ⟨l, rfl, h1, h2⟩ := okB_of h
  rw [numB_nats]; exact from_nats h1 h2

theorem back_eq (w0 w1 w2 w3 : Int) : backR [w0, w1, w2, w3] = bytesW w0 w1 w2 w3 := by kernel_rfl
theorem digW (v : Nat) (h : v < 115792089237316195423570985008687907853269984665640564039457584007913129639936) : digs WW 4 v = [v % 18446744073709551616, v / 18446744073709551616 % 18446744073709551616, v / 340282366920938463463374607431768211456 % 18446744073709551616, v / 6277101735386680763835789423207666416102355444464034512896] := by
  simp only [digs, WW, Nat.div_div_eq_div_mul, List.cons.injEq, and_true, true_and]
  rw [Nat.mod_eq_of_lt (show v / (18446744073709551616 * (18446744073709551616 * 18446744073709551616)) < 18446744073709551616 by omega)]
theorem back_wN {v : Nat} (h : v < WW ^ 4) : backL (wN v) = sN v := by
  rw [backL_eq, wN_def, sN_def, digW v (by rw [W4] at h; exact h)]
  refine (back_eq ((v % 18446744073709551616 : Nat) : Int) ((v / 18446744073709551616 % 18446744073709551616 : Nat) : Int) ((v / 340282366920938463463374607431768211456 % 18446744073709551616 : Nat) : Int) ((v / 6277101735386680763835789423207666416102355444464034512896 : Nat) : Int)).trans ?_
  rw [digs32]
  unfold bytesW
  rw [show IntKind.u8.wrap (shrI .u64 ((v % 18446744073709551616 : Nat) : Int) 0) = ((v / 1 % 256 : Nat) : Int) from (byteW _ 0 (by decide)).trans (congrArg Int.ofNat (show (v % 18446744073709551616) / 1 % 256 = v / 1 % 256 by omega)),
    show IntKind.u8.wrap (shrI .u64 ((v % 18446744073709551616 : Nat) : Int) 8) = ((v / 256 % 256 : Nat) : Int) from (byteW _ 8 (by decide)).trans (congrArg Int.ofNat (show (v % 18446744073709551616) / 256 % 256 = v / 256 % 256 by omega)),
    show IntKind.u8.wrap (shrI .u64 ((v % 18446744073709551616 : Nat) : Int) 16) = ((v / 65536 % 256 : Nat) : Int) from (byteW _ 16 (by decide)).trans (congrArg Int.ofNat (show (v % 18446744073709551616) / 65536 % 256 = v / 65536 % 256 by omega)),
    show IntKind.u8.wrap (shrI .u64 ((v % 18446744073709551616 : Nat) : Int) 24) = ((v / 16777216 % 256 : Nat) : Int) from (byteW _ 24 (by decide)).trans (congrArg Int.ofNat (show (v % 18446744073709551616) / 16777216 % 256 = v / 16777216 % 256 by omega)),
    show IntKind.u8.wrap (shrI .u64 ((v % 18446744073709551616 : Nat) : Int) 32) = ((v / 4294967296 % 256 : Nat) : Int) from (byteW _ 32 (by decide)).trans (congrArg Int.ofNat (show (v % 18446744073709551616) / 4294967296 % 256 = v / 4294967296 % 256 by omega)),
    show IntKind.u8.wrap (shrI .u64 ((v % 18446744073709551616 : Nat) : Int) 40) = ((v / 1099511627776 % 256 : Nat) : Int) from (byteW _ 40 (by decide)).trans (congrArg Int.ofNat (show (v % 18446744073709551616) / 1099511627776 % 256 = v / 1099511627776 % 256 by omega)),
    show IntKind.u8.wrap (shrI .u64 ((v % 18446744073709551616 : Nat) : Int) 48) = ((v / 281474976710656 % 256 : Nat) : Int) from (byteW _ 48 (by decide)).trans (congrArg Int.ofNat (show (v % 18446744073709551616) / 281474976710656 % 256 = v / 281474976710656 % 256 by omega)),
    show IntKind.u8.wrap (shrI .u64 ((v % 18446744073709551616 : Nat) : Int) 56) = ((v / 72057594037927936 % 256 : Nat) : Int) from (byteW _ 56 (by decide)).trans (congrArg Int.ofNat (show (v % 18446744073709551616) / 72057594037927936 % 256 = v / 72057594037927936 % 256 by omega)),
    show IntKind.u8.wrap (shrI .u64 ((v / 18446744073709551616 % 18446744073709551616 : Nat) : Int) 0) = ((v / 18446744073709551616 % 256 : Nat) : Int) from (byteW _ 0 (by decide)).trans (congrArg Int.ofNat (show (v / 18446744073709551616 % 18446744073709551616) / 1 % 256 = v / 18446744073709551616 % 256 by omega)),
    show IntKind.u8.wrap (shrI .u64 ((v / 18446744073709551616 % 18446744073709551616 : Nat) : Int) 8) = ((v / 4722366482869645213696 % 256 : Nat) : Int) from (byteW _ 8 (by decide)).trans (congrArg Int.ofNat (show (v / 18446744073709551616 % 18446744073709551616) / 256 % 256 = v / 4722366482869645213696 % 256 by omega)),
    show IntKind.u8.wrap (shrI .u64 ((v / 18446744073709551616 % 18446744073709551616 : Nat) : Int) 16) = ((v / 1208925819614629174706176 % 256 : Nat) : Int) from (byteW _ 16 (by decide)).trans (congrArg Int.ofNat (show (v / 18446744073709551616 % 18446744073709551616) / 65536 % 256 = v / 1208925819614629174706176 % 256 by omega)),
    show IntKind.u8.wrap (shrI .u64 ((v / 18446744073709551616 % 18446744073709551616 : Nat) : Int) 24) = ((v / 309485009821345068724781056 % 256 : Nat) : Int) from (byteW _ 24 (by decide)).trans (congrArg Int.ofNat (show (v / 18446744073709551616 % 18446744073709551616) / 16777216 % 256 = v / 309485009821345068724781056 % 256 by omega)),
    show IntKind.u8.wrap (shrI .u64 ((v / 18446744073709551616 % 18446744073709551616 : Nat) : Int) 32) = ((v / 79228162514264337593543950336 % 256 : Nat) : Int) from (byteW _ 32 (by decide)).trans (congrArg Int.ofNat (show (v / 18446744073709551616 % 18446744073709551616) / 4294967296 % 256 = v / 79228162514264337593543950336 % 256 by omega)),
    show IntKind.u8.wrap (shrI .u64 ((v / 18446744073709551616 % 18446744073709551616 : Nat) : Int) 40) = ((v / 20282409603651670423947251286016 % 256 : Nat) : Int) from (byteW _ 40 (by decide)).trans (congrArg Int.ofNat (show (v / 18446744073709551616 % 18446744073709551616) / 1099511627776 % 256 = v / 20282409603651670423947251286016 % 256 by omega)),
    show IntKind.u8.wrap (shrI .u64 ((v / 18446744073709551616 % 18446744073709551616 : Nat) : Int) 48) = ((v / 5192296858534827628530496329220096 % 256 : Nat) : Int) from (byteW _ 48 (by decide)).trans (congrArg Int.ofNat (show (v / 18446744073709551616 % 18446744073709551616) / 281474976710656 % 256 = v / 5192296858534827628530496329220096 % 256 by omega)),
    show IntKind.u8.wrap (shrI .u64 ((v / 18446744073709551616 % 18446744073709551616 : Nat) : Int) 56) = ((v / 1329227995784915872903807060280344576 % 256 : Nat) : Int) from (byteW _ 56 (by decide)).trans (congrArg Int.ofNat (show (v / 18446744073709551616 % 18446744073709551616) / 72057594037927936 % 256 = v / 1329227995784915872903807060280344576 % 256 by omega)),
    show IntKind.u8.wrap (shrI .u64 ((v / 340282366920938463463374607431768211456 % 18446744073709551616 : Nat) : Int) 0) = ((v / 340282366920938463463374607431768211456 % 256 : Nat) : Int) from (byteW _ 0 (by decide)).trans (congrArg Int.ofNat (show (v / 340282366920938463463374607431768211456 % 18446744073709551616) / 1 % 256 = v / 340282366920938463463374607431768211456 % 256 by omega)),
    show IntKind.u8.wrap (shrI .u64 ((v / 340282366920938463463374607431768211456 % 18446744073709551616 : Nat) : Int) 8) = ((v / 87112285931760246646623899502532662132736 % 256 : Nat) : Int) from (byteW _ 8 (by decide)).trans (congrArg Int.ofNat (show (v / 340282366920938463463374607431768211456 % 18446744073709551616) / 256 % 256 = v / 87112285931760246646623899502532662132736 % 256 by omega)),
    show IntKind.u8.wrap (shrI .u64 ((v / 340282366920938463463374607431768211456 % 18446744073709551616 : Nat) : Int) 16) = ((v / 22300745198530623141535718272648361505980416 % 256 : Nat) : Int) from (byteW _ 16 (by decide)).trans (congrArg Int.ofNat (show (v / 340282366920938463463374607431768211456 % 18446744073709551616) / 65536 % 256 = v / 22300745198530623141535718272648361505980416 % 256 by omega)),
    show IntKind.u8.wrap (shrI .u64 ((v / 340282366920938463463374607431768211456 % 18446744073709551616 : Nat) : Int) 24) = ((v / 5708990770823839524233143877797980545530986496 % 256 : Nat) : Int) from (byteW _ 24 (by decide)).trans (congrArg Int.ofNat (show (v / 340282366920938463463374607431768211456 % 18446744073709551616) / 16777216 % 256 = v / 5708990770823839524233143877797980545530986496 % 256 by omega)),
    show IntKind.u8.wrap (shrI .u64 ((v / 340282366920938463463374607431768211456 % 18446744073709551616 : Nat) : Int) 32) = ((v / 1461501637330902918203684832716283019655932542976 % 256 : Nat) : Int) from (byteW _ 32 (by decide)).trans (congrArg Int.ofNat (show (v / 340282366920938463463374607431768211456 % 18446744073709551616) / 4294967296 % 256 = v / 1461501637330902918203684832716283019655932542976 % 256 by omega)),
    show IntKind.u8.wrap (shrI .u64 ((v / 340282366920938463463374607431768211456 % 18446744073709551616 : Nat) : Int) 40) = ((v / 374144419156711147060143317175368453031918731001856 % 256 : Nat) : Int) from (byteW _ 40 (by decide)).trans (congrArg Int.ofNat (show (v / 340282366920938463463374607431768211456 % 18446744073709551616) / 1099511627776 % 256 = v / 374144419156711147060143317175368453031918731001856 % 256 by omega)),
    show IntKind.u8.wrap (shrI .u64 ((v / 340282366920938463463374607431768211456 % 18446744073709551616 : Nat) : Int) 48) = ((v / 95780971304118053647396689196894323976171195136475136 % 256 : Nat) : Int) from (byteW _ 48 (by decide)).trans (congrArg Int.ofNat (show (v / 340282366920938463463374607431768211456 % 18446744073709551616) / 281474976710656 % 256 = v / 95780971304118053647396689196894323976171195136475136 % 256 by omega)),
    show IntKind.u8.wrap (shrI .u64 ((v / 340282366920938463463374607431768211456 % 18446744073709551616 : Nat) : Int) 56) = ((v / 24519928653854221733733552434404946937899825954937634816 % 256 : Nat) : Int) from (byteW _ 56 (by decide)).trans (congrArg Int.ofNat (show (v / 340282366920938463463374607431768211456 % 18446744073709551616) / 72057594037927936 % 256 = v / 24519928653854221733733552434404946937899825954937634816 % 256 by omega)),
    show IntKind.u8.wrap (shrI .u64 ((v / 6277101735386680763835789423207666416102355444464034512896 : Nat) : Int) 0) = ((v / 6277101735386680763835789423207666416102355444464034512896 % 256 : Nat) : Int) from (byteW _ 0 (by decide)).trans (congrArg Int.ofNat (show (v / 6277101735386680763835789423207666416102355444464034512896) / 1 % 256 = v / 6277101735386680763835789423207666416102355444464034512896 % 256 by omega)),
    show IntKind.u8.wrap (shrI .u64 ((v / 6277101735386680763835789423207666416102355444464034512896 : Nat) : Int) 8) = ((v / 1606938044258990275541962092341162602522202993782792835301376 % 256 : Nat) : Int) from (byteW _ 8 (by decide)).trans (congrArg Int.ofNat (show (v / 6277101735386680763835789423207666416102355444464034512896) / 256 % 256 = v / 1606938044258990275541962092341162602522202993782792835301376 % 256 by omega)),
    show IntKind.u8.wrap (shrI .u64 ((v / 6277101735386680763835789423207666416102355444464034512896 : Nat) : Int) 16) = ((v / 411376139330301510538742295639337626245683966408394965837152256 % 256 : Nat) : Int) from (byteW _ 16 (by decide)).trans (congrArg Int.ofNat (show (v / 6277101735386680763835789423207666416102355444464034512896) / 65536 % 256 = v / 411376139330301510538742295639337626245683966408394965837152256 % 256 by omega)),
    show IntKind.u8.wrap (shrI .u64 ((v / 6277101735386680763835789423207666416102355444464034512896 : Nat) : Int) 24) = ((v / 105312291668557186697918027683670432318895095400549111254310977536 % 256 : Nat) : Int) from (byteW _ 24 (by decide)).trans (congrArg Int.ofNat (show (v / 6277101735386680763835789423207666416102355444464034512896) / 16777216 % 256 = v / 105312291668557186697918027683670432318895095400549111254310977536 % 256 by omega)),
    show IntKind.u8.wrap (shrI .u64 ((v / 6277101735386680763835789423207666416102355444464034512896 : Nat) : Int) 32) = ((v / 26959946667150639794667015087019630673637144422540572481103610249216 % 256 : Nat) : Int) from (byteW _ 32 (by decide)).trans (congrArg Int.ofNat (show (v / 6277101735386680763835789423207666416102355444464034512896) / 4294967296 % 256 = v / 26959946667150639794667015087019630673637144422540572481103610249216 % 256 by omega)),
    show IntKind.u8.wrap (shrI .u64 ((v / 6277101735386680763835789423207666416102355444464034512896 : Nat) : Int) 40) = ((v / 6901746346790563787434755862277025452451108972170386555162524223799296 % 256 : Nat) : Int) from (byteW _ 40 (by decide)).trans (congrArg Int.ofNat (show (v / 6277101735386680763835789423207666416102355444464034512896) / 1099511627776 % 256 = v / 6901746346790563787434755862277025452451108972170386555162524223799296 % 256 by omega)),
    show IntKind.u8.wrap (shrI .u64 ((v / 6277101735386680763835789423207666416102355444464034512896 : Nat) : Int) 48) = ((v / 1766847064778384329583297500742918515827483896875618958121606201292619776 % 256 : Nat) : Int) from (byteW _ 48 (by decide)).trans (congrArg Int.ofNat (show (v / 6277101735386680763835789423207666416102355444464034512896) / 281474976710656 % 256 = v / 1766847064778384329583297500742918515827483896875618958121606201292619776 % 256 by omega)),
    show IntKind.u8.wrap (shrI .u64 ((v / 6277101735386680763835789423207666416102355444464034512896 : Nat) : Int) 56) = ((v / 452312848583266388373324160190187140051835877600158453279131187530910662656 % 256 : Nat) : Int) from (byteW _ 56 (by decide)).trans (congrArg Int.ofNat (show (v / 6277101735386680763835789423207666416102355444464034512896) / 72057594037927936 % 256 = v / 452312848583266388373324160190187140051835877600158453279131187530910662656 % 256 by omega))]
  rfl


end Go.Proofs.Ytogcijgklnfjjaa

namespace Go.Proofs.Ytogcijgklnfjjaa
open Go Go.Eng
set_option maxRecDepth 100000

theorem ell_pos : 0 < ell := by rw [ell_def]; decide
def okN (x : List Int) : Bool := okW x && decide (nW x < ell)
theorem okN_W {x : List Int} (h : okN x = true) : okW x = true := (Bool.and_eq_true _ _ ▸ h).1
theorem okN_lt {x : List Int} (h : okN x = true) : nW x < ell := of_decide_eq_true (Bool.and_eq_true _ _ ▸ h).2
theorem okN_wN {v : Nat} (h : v < ell) : okN (wN v) = true := by
  unfold okN
  rw [okW_wN, nW_wN (Nat.lt_trans h ell_lt), decide_eq_true h]; rfl
theorem lt_W4 {v : Nat} (h : v < ell) : v < WW ^ 4 := Nat.lt_trans h ell_lt

noncomputable def addD : List Int → List Int → Int → List Int
  | x :: xs, y :: ys, c => addLo x y c :: addD xs ys (addHi x y c)
  | _, _, _ => []
def g01 (x y c : Int) : Bool := decide (addHi x y c = 0) || decide (addHi x y c = 1)
theorem f54_form {R : Type} (x0 x1 x2 x3 y0 y1 y2 y3 : Int) (k : List DV → Option R) : f54_raw 0 [x0, x1, x2, x3] [y0, y1, y2, y3] k =
    bif g01 x0 y0 0 then bif g01 x1 y1 (addHi x0 y0 0) then bif g01 x2 y2 (addHi x1 y1 (addHi x0 y0 0)) then k [.v (.one (.ints .u64 4 (lowL (addD [x0, x1, x2, x3] [y0, y1, y2, y3] 0))))] else none else none else none := by kernel_rfl

theorem add_nat {x y c : Nat} (hx : x < 18446744073709551616) (hy : y < 18446744073709551616) (hc : c ≤ 1) :
    ∃ d b : Nat, addLo (x : Int) (y : Int) (c : Int) = (d : Int) ∧ addHi (x : Int) (y : Int) (c : Int) = (b : Int) ∧ d < 18446744073709551616 ∧ b ≤ 1 ∧ d + 18446744073709551616 * b = x + y + c ∧ g01 (x : Int) (y : Int) (c : Int) = true := by
  refine ⟨(x + y + c) % 18446744073709551616, (x + y + c) / 18446744073709551616, addLo_nat _ _ _, addHi_nat _ _ _, Nat.mod_lt _ (by decide), by omega, by omega, ?_⟩
  unfold g01
  rw [addHi_nat]
  rcases (show (x + y + c) / 18446744073709551616 = 0 ∨ (x + y + c) / 18446744073709551616 = 1 by omega) with e | e <;> rw [e] <;> rfl

theorem len4 {l : List Nat} (h : l.length = 4) : ∃ a b c d, l = [a, b, c, d] := by
  match l, h with
  | [a, b, c, d], _ => exact ⟨a, b, c, d, rfl⟩
theorem lw_add {A B : Nat} (ha : A < ell) (hb : B < ell) : lw (A + B) = (A + B) % ell := by
  unfold lw
  split
  · rename_i hl; rw [Nat.mod_eq_of_lt hl]
  · rename_i hl; rw [Nat.mod_eq_sub_mod (by omega), Nat.mod_eq_of_lt (by omega)]
theorem two_ell : ell + ell ≤ WW ^ 4 := by rw [ell_def, W4]; decide
theorem plus_nat {R : Type} {x0 x1 x2 x3 y0 y1 y2 y3 : Nat} (a0 : x0 < WW) (a1 : x1 < WW) (a2 : x2 < WW) (a3 : x3 < WW) (b0 : y0 < WW) (b1 : y1 < WW) (b2 : y2 < WW) (b3 : y3 < WW)
    (lx : valB WW [x0, x1, x2, x3] < ell) (ly : valB WW [y0, y1, y2, y3] < ell) (k : List DV → Option R) :
    f54_raw 0 (nats [x0, x1, x2, x3]) (nats [y0, y1, y2, y3]) k = k [.v (.one (.ints .u64 4 (wN ((valB WW [x0, x1, x2, x3] + valB WW [y0, y1, y2, y3]) % ell))))] := by
  obtain ⟨d0, c0, e0, f0, i0, j0, k0, g0⟩ := add_nat (c := 0) a0 b0 (by decide)
  obtain ⟨d1, c1, e1, f1, i1, j1, k1, g1⟩ := add_nat a1 b1 j0
  obtain ⟨d2, c2, e2, f2, i2, j2, k2, g2⟩ := add_nat a2 b2 j1
  obtain ⟨d3, c3, e3, f3, i3, j3, k3, g3⟩ := add_nat a3 b3 j2
  refine (f54_form (x0 : Int) (x1 : Int) (x2 : Int) (x3 : Int) (y0 : Int) (y1 : Int) (y2 : Int) (y3 : Int) k).trans ?_
  have ed : addD [(x0 : Int), (x1 : Int), (x2 : Int), (x3 : Int)] [(y0 : Int), (y1 : Int), (y2 : Int), (y3 : Int)] ((0 : Nat) : Int) = nats [d0, d1, d2, d3] := by
    simp only [addD]
    rw [e0, f0, e1, f1, e2, f2, e3]; rfl
  rw [show (0 : Int) = ((0 : Nat) : Int) from rfl, g0, f0, g1, f1, g2, cond_true, cond_true, cond_true, ed]
  have hs : valB WW [d0, d1, d2, d3] = valB WW [x0, x1, x2, x3] + valB WW [y0, y1, y2, y3] := by
    rw [ell_def] at lx ly
    simp only [valB, WW] at lx ly ⊢
    omega
  have ew : nats [d0, d1, d2, d3] = wN (valB WW [x0, x1, x2, x3] + valB WW [y0, y1, y2, y3]) := wN_of rfl rfl (by
    simp only [List.mem_cons, List.not_mem_nil, or_false, forall_eq_or_imp, forall_eq]
    exact ⟨i0, i1, i2, i3⟩) hs
  rw [ew]
  have h2 := two_ell
  rw [low_wN (by omega), lw_add lx ly]
theorem plus_num {R : Type} {x y : List Int} (hx : okN x = true) (hy : okN y = true) (k : List DV → Option R) :
    f54_raw 0 x y k = k [.v (.one (.ints .u64 4 (wN ((nW x + nW y) % ell))))] := by
  have lx := okN_lt hx
  have ly := okN_lt hy
  obtain ⟨l, rfl, h1, h2⟩ := okW_of (okN_W hx)
  obtain ⟨m, rfl, h3, h4⟩ := okW_of (okN_W hy)
  rw [nW_nats] at lx ly
  rw [nW_nats, nW_nats]
  obtain ⟨x0, x1, x2, x3, rfl⟩ := len4 h1
  obtain ⟨y0, y1, y2, y3, rfl⟩ := len4 h3
  simp only [List.mem_cons, List.not_mem_nil, or_false, forall_eq_or_imp, forall_eq] at h2 h4
  obtain ⟨a0, a1, a2, a3⟩ := h2
  obtain ⟨b0, b1, b2, b3⟩ := h4
  exact plus_nat a0 a1 a2 a3 b0 b1 b2 b3 lx ly k

noncomputable def addN : Nat → Nat → Nat := (stk fun a b : Nat => (a + b) % ell).1
theorem addN_def (a b : Nat) : addN a b = (a + b) % ell := congrFun (congrFun (stk fun a b : Nat => (a + b) % ell).2 a) b
theorem addN_lt (a b : Nat) : addN a b < ell := by rw [addN_def]; exact Nat.mod_lt _ ell_pos
noncomputable def I54 : (R : Type) → List DV → (List DV → Option R) → Option R := fun _ ds k => match ds with
  | [.v (.one (.ints .u64 4 x)), .v (.one (.ints .u64 4 y))] => bif okN x && okN y then k [.v (.one (.ints .u64 4 (wN (addN (nW x) (nW y)))))] else none
  | _ => none
theorem c54 : Contract Try.prog 54 { sig := S54, impl := I54 } := by
  refine Contract.refine fun R ds k r h => ⟨_, f54_contract 0 G54_ok, ?_⟩
  unfold I54 at h
  split at h
  · rename_i x y
    cases hc : okN x && okN y with
    | false => rw [hc] at h; cases h
    | true =>
      rw [hc] at h
      obtain ⟨h1, h2⟩ := Bool.and_eq_true _ _ ▸ hc
      rw [f54_raw_eq, plus_num h1 h2, ← addN_def]; exact h
  · cases h

noncomputable def negN : Nat → Nat := (stk fun a : Nat => (ell - a) % ell).1
theorem negN_def (a : Nat) : negN a = (ell - a) % ell := congrFun (stk fun a : Nat => (ell - a) % ell).2 a
theorem negN_lt (a : Nat) : negN a < ell := by rw [negN_def]; exact Nat.mod_lt _ ell_pos
theorem wN_zero : List.replicate 4 (0 : Int) = wN 0 := by rw [wN_def]; decide
theorem minus_num {R : Type} {x : List Int} (hx : okN x = true) (k : List DV → Option R) : f59_raw 0 x k = k [.v (.one (.ints .u64 4 (wN (negN (nW x)))))] := by
  unfold f59_raw
  have hl := okN_lt hx
  have ex := wN_nW (okN_W hx)
  rw [negN_def]
  by_cases h0 : nW x = 0
  · have : x = List.replicate 4 0 := by rw [wN_zero, ← h0]; exact ex.symm
    rw [decide_eq_true this, cond_true, h0, Nat.sub_zero, Nat.mod_self, ← wN_zero, ← this]
  · have : ¬ x = List.replicate 4 0 := by
      intro e; rw [wN_zero] at e
      apply h0; rw [e, nW_wN (by decide)]
    rw [decide_eq_false this, cond_false, (less_num ordW_ok (okN_W hx)).1, ordW_num]
    have e1 := ell_lt
    rw [show ell + WW ^ 4 - nW x = (ell - nW x) + WW ^ 4 by omega, Nat.add_mod_right, Nat.mod_eq_of_lt (show ell - nW x < WW ^ 4 by omega), Nat.mod_eq_of_lt (show ell - nW x < ell by omega)]
noncomputable def I59 : (R : Type) → List DV → (List DV → Option R) → Option R := fun _ ds k => match ds with
  | [.v (.one (.ints .u64 4 x))] => bif okN x then k [.v (.one (.ints .u64 4 (wN (negN (nW x)))))] else none
  | _ => none
theorem c59 : Contract Try.prog 59 { sig := S59, impl := I59 } := by
  refine Contract.refine fun R ds k r h => ⟨_, f59_contract 0 G79_ok, ?_⟩
  unfold I59 at h
  split at h
  · rename_i x
    cases hc : okN x with
    | false => rw [hc] at h; cases h
    | true =>
      rw [hc] at h
      rw [f59_raw_eq, minus_num hc]; exact h
  · cases h

noncomputable def vS : List Int → Nat := (stk fun x => numB x % ell).1
theorem vS_def (x : List Int) : vS x = numB x % ell := congrFun (stk fun x => numB x % ell).2 x
theorem vS_lt (x : List Int) : vS x < ell := by rw [vS_def]; exact Nat.mod_lt _ ell_pos
theorem low_k {v : Nat} (hv : v < WW ^ 4) : ∀ k : Nat, lowL (wN (lwN k v)) = wN (lwN (k + 1) v) := by
  intro k
  have : ∀ k, lwN k v < WW ^ 4 := by
    intro k
    induction k with
    | zero => exact hv
    | succ k ih => exact Nat.lt_of_le_of_lt (lw_lt _) ih
  exact low_wN (this k)
theorem value_num {R : Type} {x : List Int} (hx : okB x = true) (k : List DV → Option R) : f55_raw 0 x k = k [.v (.one (.ints .u64 4 (wN (vS x))))] := by
  unfold f55_raw
  have hv := numB_lt hx
  rw [from_num hx, vS_def, ← lwN_16 hv]
  rw [show wN (numB x) = wN (lwN 0 (numB x)) from rfl]
  iterate 16 rw [low_k hv]
noncomputable def I55 : (R : Type) → List DV → (List DV → Option R) → Option R := fun _ ds k => match ds with
  | [.v (.one (.ints .u8 32 x))] => bif okB x then k [.v (.one (.ints .u64 4 (wN (vS x))))] else none
  | _ => none
theorem c55 : Contract Try.prog 55 { sig := S55, impl := I55 } := by
  refine Contract.refine fun R ds k r h => ⟨_, f55_contract 0 G55_ok, ?_⟩
  unfold I55 at h
  split at h
  · rename_i x
    cases hc : okB x with
    | false => rw [hc] at h; cases h
    | true =>
      rw [hc] at h
      rw [f55_raw_eq, value_num hc]; exact h
  · cases h
end Go.Proofs.Ytogcijgklnfjjaa

namespace Go.Proofs.Ytogcijgklnfjjaa
open Go Go.Eng
set_option maxRecDepth 100000

noncomputable def mrow (a : Int) : List Int → List Int → Int → List Int × Int
  | b :: bs, t :: ts, c => (maLo a b t c :: (mrow a bs ts (maHi a b t c)).1, (mrow a bs ts (maHi a b t c)).2)
  | _, _, c => ([], c)
noncomputable def mend (s : List Int × Int) (t4 q : Int) : List Int :=
  [s.1.getD 1 0, s.1.getD 2 0, s.1.getD 3 0, addLo (addLo t4 q 0) s.2 0, IntKind.u64.wrap (addHi t4 q 0 + addHi (addLo t4 q 0) s.2 0)]
noncomputable def mmid (r : List Int × Int) (t4 : Int) : List Int := mend (mrow (IntKind.u64.wrap (r.1.getD 0 0 * 15183074304973897243)) ordW r.1 0) t4 r.2
noncomputable def mstep (a : Int) (b : List Int) : List Int → List Int
  | [t0, t1, t2, t3, t4] => mmid (mrow a b [t0, t1, t2, t3] 0) t4
  | _ => []
noncomputable def montR (x y : List Int) : List Int := ansL (f82_raw 0 x y some) 0
theorem f82_spec {R : Type} (x y : List Int) (k : List DV → Option R) : f82_raw 0 x y k = k [.v (.one (.ints .u64 4 (montR x y)))] := by kernel_rfl
theorem mont_eq (a0 a1 a2 a3 b0 b1 b2 b3 : Int) : montR [a0, a1, a2, a3] [b0, b1, b2, b3] =
    lowL (List.take 4 (mstep a3 [b0, b1, b2, b3] (mstep a2 [b0, b1, b2, b3] (mstep a1 [b0, b1, b2, b3] (mstep a0 [b0, b1, b2, b3] [0, 0, 0, 0, 0]))))) := by kernel_rfl

theorem mrow_nat {a : Nat} (ha : a < WW) : ∀ (b t : List Nat) (c : Nat), b.length = t.length → (∀ x ∈ b, x < WW) → (∀ x ∈ t, x < WW) → c < WW →
    ∃ (r : List Nat) (q : Nat), mrow (a : Int) (nats b) (nats t) (c : Int) = (nats r, (q : Int)) ∧ r.length = b.length ∧ (∀ x ∈ r, x < WW) ∧ q < WW ∧ valB WW r + WW ^ b.length * q = a * valB WW b + valB WW t + c
  | [], [], c, _, _, _, hc => ⟨[], c, rfl, rfl, by simp, hc, by simp [valB]⟩
  | x :: b, y :: t, c, hl, h1, h2, hc => by
    have hx : x < WW := h1 x (by simp)
    have hy : y < WW := h2 y (by simp)
    obtain ⟨e1, e2⟩ := ma_nat ha hx hy hc
    have hp : a * x ≤ 18446744073709551615 * 18446744073709551615 := by unfold WW at *; exact Nat.mul_le_mul (by omega) (by omega)
    have hq : (a * x + y + c) / 18446744073709551616 < WW := by unfold WW at *; omega
    obtain ⟨r, q, g1, g2, g3, g4, g5⟩ := mrow_nat ha b t ((a * x + y + c) / 18446744073709551616) (by simpa using hl) (fun z hz => h1 z (by simp [hz])) (fun z hz => h2 z (by simp [hz])) hq
    refine ⟨(a * x + y + c) % 18446744073709551616 :: r, q, ?_, by simp [g2], ?_, g4, ?_⟩
    · show (maLo (a : Int) (x : Int) (y : Int) (c : Int) :: (mrow (a : Int) (nats b) (nats t) (maHi (a : Int) (x : Int) (y : Int) (c : Int))).1, (mrow (a : Int) (nats b) (nats t) (maHi (a : Int) (x : Int) (y : Int) (c : Int))).2) = _
      rw [e1, e2, g1]; rfl
    · intro z hz
      rcases List.mem_cons.mp hz with rfl | hz
      · exact Nat.mod_lt _ (by decide)
      · exact g3 z hz
    · simp only [valB, List.length_cons, Nat.pow_succ]
      rw [Nat.mul_comm (WW ^ b.length) WW, Nat.mul_assoc, Nat.mul_add, show a * (WW * valB WW b) = WW * (a * valB WW b) by rw [← Nat.mul_assoc, Nat.mul_comm a WW, Nat.mul_assoc]]
      generalize WW ^ b.length * q = P at *
      generalize a * valB WW b = Q at *
      generalize a * x = S at *
      unfold WW at *
      omega
  | [], _ :: _, _, h, _, _, _ => by simp at h
  | _ :: _, [], _, h, _, _, _ => by simp at h

theorem mstep_nat {a : Nat} (ha : a < WW) {b : List Nat} (hb : b.length = 4) (hB : ∀ x ∈ b, x < WW) {t : List Nat} (ht : t.length = 5) (hT : ∀ x ∈ t, x < WW) :
    ∃ (u : List Nat) (m : Nat), mstep (a : Int) (nats b) (nats t) = nats u ∧ u.length = 5 ∧ (∀ x ∈ u, x < WW) ∧ m < WW ∧ WW * valB WW u = valB WW t + a * valB WW b + m * ell := by
  match t, ht with
  | [t0, t1, t2, t3, t4], _ =>
    simp only [List.mem_cons, List.not_mem_nil, or_false, forall_eq_or_imp, forall_eq] at hT
    obtain ⟨h0, h1, h2, h3, h4⟩ := hT
    obtain ⟨r, q, e1, r1, r2, r3, r4⟩ := mrow_nat ha b [t0, t1, t2, t3] 0 (by rw [hb]; rfl) hB (by
      simp only [List.mem_cons, List.not_mem_nil, or_false, forall_eq_or_imp, forall_eq]
      exact ⟨h0, h1, h2, h3⟩) (by decide)
    rw [hb] at r1 r4
    obtain ⟨r0, ra, rb, rc, rfl⟩ := len4 r1
    have hm : (r0 * 15183074304973897243) % 18446744073709551616 < WW := Nat.mod_lt _ (by decide)
    obtain ⟨s, q2, e2, s1, s2, s3, s4⟩ := mrow_nat hm [6346243789798364141, 1503914060200516822, 0, 1152921504606846976] [r0, ra, rb, rc] 0 rfl (by decide) r2 (by decide)
    obtain ⟨u0, u1, u2, u3, rfl⟩ := len4 s1
    have em : IntKind.u64.wrap ((r0 : Int) * 15183074304973897243) = (((r0 * 15183074304973897243) % 18446744073709551616 : Nat) : Int) := wm64 (r0 * 15183074304973897243)
    have hord : valB WW [6346243789798364141, 1503914060200516822, 0, 1152921504606846976] = ell := by rw [ell_def]; decide
    rw [hord] at s4
    have hov : (t4 + q + 0) / 18446744073709551616 + ((t4 + q + 0) % 18446744073709551616 + q2 + 0) / 18446744073709551616 < 18446744073709551616 := by unfold WW at *; omega
    refine ⟨[u1, u2, u3, ((t4 + q + 0) % 18446744073709551616 + q2 + 0) % 18446744073709551616, (t4 + q + 0) / 18446744073709551616 + ((t4 + q + 0) % 18446744073709551616 + q2 + 0) / 18446744073709551616], (r0 * 15183074304973897243) % 18446744073709551616, ?_, rfl, ?_, hm, ?_⟩
    · have e1' : mrow (a : Int) (nats b) [(t0 : Int), (t1 : Int), (t2 : Int), (t3 : Int)] 0 = (nats [r0, ra, rb, rc], (q : Int)) := e1
      have e2' : mrow (((r0 * 15183074304973897243) % 18446744073709551616 : Nat) : Int) ordW [(r0 : Int), (ra : Int), (rb : Int), (rc : Int)] 0 = (nats [u0, u1, u2, u3], (q2 : Int)) := e2
      show mmid (mrow (a : Int) (nats b) [(t0 : Int), (t1 : Int), (t2 : Int), (t3 : Int)] 0) (t4 : Int) = _
      rw [e1']
      show mend (mrow (IntKind.u64.wrap ((r0 : Int) * 15183074304973897243)) ordW [(r0 : Int), (ra : Int), (rb : Int), (rc : Int)] 0) (t4 : Int) (q : Int) = _
      rw [em, e2']
      show [(u1 : Int), (u2 : Int), (u3 : Int), addLo (addLo (t4 : Int) (q : Int) ((0 : Nat) : Int)) (q2 : Int) ((0 : Nat) : Int), IntKind.u64.wrap (addHi (t4 : Int) (q : Int) ((0 : Nat) : Int) + addHi (addLo (t4 : Int) (q : Int) ((0 : Nat) : Int)) (q2 : Int) ((0 : Nat) : Int))] = _
      rw [addLo_nat, addHi_nat, addLo_nat, addHi_nat, show IntKind.u64.wrap ((((t4 + q + 0) / 18446744073709551616 : Nat) : Int) + ((((t4 + q + 0) % 18446744073709551616 + q2 + 0) / 18446744073709551616 : Nat) : Int)) = (((t4 + q + 0) / 18446744073709551616 + ((t4 + q + 0) % 18446744073709551616 + q2 + 0) / 18446744073709551616 : Nat) : Int) from w64 (n := (t4 + q + 0) / 18446744073709551616 + ((t4 + q + 0) % 18446744073709551616 + q2 + 0) / 18446744073709551616) hov]
      rfl
    · simp only [List.mem_cons, List.not_mem_nil, or_false, forall_eq_or_imp, forall_eq] at s2 ⊢
      obtain ⟨_, b1, b2, b3⟩ := s2
      exact ⟨b1, b2, b3, Nat.mod_lt _ (by decide), hov⟩
    · have hu0 : u0 = 0 := by
        simp only [List.mem_cons, List.not_mem_nil, or_false, forall_eq_or_imp, forall_eq] at s2
        have hu : u0 < 18446744073709551616 := s2.1
        rw [ell_def] at s4
        simp only [valB, WW, List.length_cons, List.length_nil] at s4
        clear e2 em e1 r4 hov
        omega
      subst hu0
      simp only [valB] at r4 s4 ⊢
      generalize (r0 * 15183074304973897243) % 18446744073709551616 * ell = M at *
      generalize a * valB WW b = Q at *
      clear e2 em e1
      simp only [WW, List.length_cons, List.length_nil] at *
      omega
end Go.Proofs.Ytogcijgklnfjjaa

namespace Go.Proofs.Ytogcijgklnfjjaa
open Go Go.Eng
set_option maxRecDepth 100000

@[irreducible] def rinv : Nat := 4458503529701987551646482192314240623644693141688353256590997718326214331684
theorem rinv_def : rinv = 4458503529701987551646482192314240623644693141688353256590997718326214331684 := by unfold rinv; rfl
theorem rinv_ok : WW ^ 4 * rinv % ell = 1 := by rw [rinv_def, ell_def, W4]

theorem redc {T A B M : Nat} (h : WW ^ 4 * T = A * B + M * ell) (hA : A < WW ^ 4) (hB : B < ell) (hM : M < WW ^ 4) : T < ell + ell ∧ T % ell = A * B * rinv % ell := by
  constructor
  · have h1 : A * B ≤ WW ^ 4 * B := Nat.mul_le_mul_right _ (Nat.le_of_lt hA)
    have h2 : WW ^ 4 * B + M * ell < WW ^ 4 * (ell + ell) := by
      have : M * ell ≤ WW ^ 4 * ell := Nat.mul_le_mul_right _ (Nat.le_of_lt hM)
      have : WW ^ 4 * B < WW ^ 4 * ell := Nat.mul_lt_mul_of_pos_left hB (by rw [W4]; decide)
      rw [Nat.mul_add]; omega
    have : WW ^ 4 * T < WW ^ 4 * (ell + ell) := by omega
    exact Nat.lt_of_mul_lt_mul_left this
  · have e1 : T % ell = T * (WW ^ 4 * rinv) % ell := by rw [Nat.mul_mod, rinv_ok, Nat.mul_one, Nat.mod_mod]
    rw [e1, ← Nat.mul_assoc, Nat.mul_comm T, h, Nat.add_mul, Nat.mul_assoc M, Nat.mul_comm ell, ← Nat.mul_assoc, Nat.add_mul_mod_self_right]

noncomputable def montN : Nat → Nat → Nat := (stk fun a b : Nat => a * b * rinv % ell).1
theorem montN_def (a b : Nat) : montN a b = a * b * rinv % ell := congrFun (congrFun (stk fun a b : Nat => a * b * rinv % ell).2 a) b
theorem montN_lt (a b : Nat) : montN a b < ell := by rw [montN_def]; exact Nat.mod_lt _ ell_pos

theorem mont_val {B : Nat} {m0 m1 m2 m3 a0 a1 a2 a3 T0 T1 T2 T3 : Nat} (s0 : WW * T0 = 0 + a0 * B + m0 * ell) (s1 : WW * T1 = T0 + a1 * B + m1 * ell) (s2 : WW * T2 = T1 + a2 * B + m2 * ell) (s3 : WW * T3 = T2 + a3 * B + m3 * ell) :
    WW ^ 4 * T3 = valB WW [a0, a1, a2, a3] * B + valB WW [m0, m1, m2, m3] * ell := by
  simp only [valB, Nat.add_mul, Nat.mul_add, Nat.mul_zero, Nat.zero_mul, Nat.mul_assoc] at *
  generalize a0 * B = x0 at *
  generalize a1 * B = x1 at *
  generalize a2 * B = x2 at *
  generalize a3 * B = x3 at *
  generalize m0 * ell = y0 at *
  generalize m1 * ell = y1 at *
  generalize m2 * ell = y2 at *
  generalize m3 * ell = y3 at *
  rw [W4]
  unfold WW at *
  omega

theorem mont_nat {a0 a1 a2 a3 : Nat} (ha : ∀ x ∈ [a0, a1, a2, a3], x < WW) {b0 b1 b2 b3 : Nat} (hb : ∀ x ∈ [b0, b1, b2, b3], x < WW) (lb : valB WW [b0, b1, b2, b3] < ell) :
    montR (nats [a0, a1, a2, a3]) (nats [b0, b1, b2, b3]) = wN (montN (valB WW [a0, a1, a2, a3]) (valB WW [b0, b1, b2, b3])) := by
  have hA : valB WW [a0, a1, a2, a3] < WW ^ 4 := valB_lt (b := WW) (by decide) ha
  simp only [List.mem_cons, List.not_mem_nil, or_false, forall_eq_or_imp, forall_eq] at ha
  obtain ⟨h0, h1, h2, h3⟩ := ha
  obtain ⟨t0, m0, e0, l0, w0, k0, s0⟩ := mstep_nat h0 (b := [b0, b1, b2, b3]) rfl hb (t := [0, 0, 0, 0, 0]) rfl (by decide)
  obtain ⟨t1, m1, e1, l1, w1, k1, s1⟩ := mstep_nat h1 (b := [b0, b1, b2, b3]) rfl hb l0 w0
  obtain ⟨t2, m2, e2, l2, w2, k2, s2⟩ := mstep_nat h2 (b := [b0, b1, b2, b3]) rfl hb l1 w1
  obtain ⟨t3, m3, e3, l3, w3, k3, s3⟩ := mstep_nat h3 (b := [b0, b1, b2, b3]) rfl hb l2 w2
  refine (mont_eq (a0 : Int) (a1 : Int) (a2 : Int) (a3 : Int) (b0 : Int) (b1 : Int) (b2 : Int) (b3 : Int)).trans ?_
  have e0' : mstep (a0 : Int) [(b0 : Int), (b1 : Int), (b2 : Int), (b3 : Int)] [0, 0, 0, 0, 0] = nats t0 := e0
  have e1' : mstep (a1 : Int) [(b0 : Int), (b1 : Int), (b2 : Int), (b3 : Int)] (nats t0) = nats t1 := e1
  have e2' : mstep (a2 : Int) [(b0 : Int), (b1 : Int), (b2 : Int), (b3 : Int)] (nats t1) = nats t2 := e2
  have e3' : mstep (a3 : Int) [(b0 : Int), (b1 : Int), (b2 : Int), (b3 : Int)] (nats t2) = nats t3 := e3
  rw [e0', e1', e2', e3']
  have z : valB WW [0, 0, 0, 0, 0] = 0 := by decide
  rw [z] at s0
  have hv := mont_val s0 s1 s2 s3
  have hM : valB WW [m0, m1, m2, m3] < WW ^ 4 := valB_lt (b := WW) (l := [m0, m1, m2, m3]) (by decide) (by
    simp only [List.mem_cons, List.not_mem_nil, or_false, forall_eq_or_imp, forall_eq]; exact ⟨k0, k1, k2, k3⟩)
  obtain ⟨r1, r2⟩ := redc hv hA lb hM
  have h2e := two_ell
  match t3, l3, w3, r1, r2 with
  | [u0, u1, u2, u3, u4], _, w3, r1, r2 =>
    have hs : valB WW [u0, u1, u2, u3, u4] = valB WW [u0, u1, u2, u3] + WW ^ 4 * u4 := valB_append WW [u0, u1, u2, u3] [u4] |>.trans (by simp [valB])
    have hu4 : u4 = 0 := by
      rcases Nat.eq_zero_or_pos u4 with h | h
      · exact h
      · have : WW ^ 4 * 1 ≤ WW ^ 4 * u4 := Nat.mul_le_mul_left _ h
        omega
    subst hu4
    rw [Nat.mul_zero, Nat.add_zero] at hs
    rw [hs] at r1 r2
    simp only [List.mem_cons, List.not_mem_nil, or_false, forall_eq_or_imp, forall_eq] at w3
    have ew : List.take 4 (nats [u0, u1, u2, u3, 0]) = wN (valB WW [u0, u1, u2, u3]) := wN_of (l := [u0, u1, u2, u3]) rfl rfl (by
      simp only [List.mem_cons, List.not_mem_nil, or_false, forall_eq_or_imp, forall_eq]
      exact ⟨w3.1, w3.2.1, w3.2.2.1, w3.2.2.2.1⟩) rfl
    rw [ew, low_wN (by omega), montN_def, ← r2]
    refine congrArg wN ?_
    unfold lw
    split
    · rename_i hl; exact (Nat.mod_eq_of_lt hl).symm
    · rename_i hl; rw [Nat.mod_eq_sub_mod (by omega), Nat.mod_eq_of_lt (by omega)]

theorem mont_num {x y : List Int} (hx : okW x = true) (hy : okN y = true) : montR x y = wN (montN (nW x) (nW y)) := by
  have ly := okN_lt hy
  obtain ⟨l, rfl, h1, h2⟩ := okW_of hx
  obtain ⟨m, rfl, h3, h4⟩ := okW_of (okN_W hy)
  rw [nW_nats] at ly
  rw [nW_nats, nW_nats]
  obtain ⟨x0, x1, x2, x3, rfl⟩ := len4 h1
  obtain ⟨y0, y1, y2, y3, rfl⟩ := len4 h3
  exact mont_nat h2 h4 ly
noncomputable def I82 : (R : Type) → List DV → (List DV → Option R) → Option R := fun _ ds k => match ds with
  | [.v (.one (.ints .u64 4 x)), .v (.one (.ints .u64 4 y))] => bif okW x && okN y then k [.v (.one (.ints .u64 4 (wN (montN (nW x) (nW y)))))] else none
  | _ => none
theorem c82 : Contract Try.prog 82 { sig := S82, impl := I82 } := by
  refine Contract.refine fun R ds k r h => ⟨_, f82_contract 0 G82_ok, ?_⟩
  unfold I82 at h
  split at h
  · rename_i x y
    cases hc : okW x && okN y with
    | false => rw [hc] at h; cases h
    | true =>
      rw [hc] at h
      obtain ⟨h1, h2⟩ := Bool.and_eq_true _ _ ▸ hc
      rw [f82_raw_eq, f82_spec, mont_num h1 h2]; exact h
  · cases h
noncomputable def G60 : Ctx := [(82, { sig := S82, impl := I82 }), (83, { sig := S83, impl := I83 })]
theorem G60_ok : CtxOk Try.prog G60 := ctxOk_cons ok82 rfl c82 (ctxOk_cons ok83 rfl c83 ctxOk_nil)
end Go.Proofs.Ytogcijgklnfjjaa

namespace Go.Proofs.Ytogcijgklnfjjaa
open Go Go.Eng
set_option maxRecDepth 100000
set_option linter.unusedVariables false

noncomputable def f60_raw {R : Type} (N : Nat) (x : List Int) (y : List Int) (k : List DV → Option R) : Option R :=
 bif okW x && okN y then bif okW (wN (montN (nW x) (nW y))) && okN radW then k [DV.v (SV.one (At.ints IntKind.u64 4 (wN (montN (nW (wN (montN (nW x) (nW y)))) (nW radW)))))] else Option.none else Option.none


noncomputable def E60 (N : Nat) : Env := { Θ := Th, Γ := G60, K := K60, ν := N60, fuel := 0, lp := [] }


theorem f60_contract (N : Nat) (hΓ : CtxOk Try.prog G60) : Contract Try.prog 60 { sig := S60, impl := fun _ ds k => call (E60 N) S60 10 B60 R60 ds k } :=
  call_contract (E := E60 N) thOk hΓ mixed ok60.look ok60.body ok60.n ok60.rv ok60.name rfl (by decide) (loopsOk_of (l := []) (by kernel_rfl) trivial)
theorem f60_raw_eq {R : Type} (N : Nat) (x : List Int) (y : List Int) (k : List DV → Option R) : call (E60 N) S60 10 B60 R60 [.v (.one (.ints .u64 4 x)), .v (.one (.ints .u64 4 y))] k = f60_raw N x y k := by kernel_rfl
end Go.Proofs.Ytogcijgklnfjjaa

namespace Go.Proofs.Ytogcijgklnfjjaa
open Go Go.Eng
set_option maxRecDepth 100000
set_option linter.unusedVariables false

def f58_0_sh : Shp := { n := 36, lo := 2, slots := [(3, .one (.fix (At.ptr 3 0 Off.z 4))), (4, .one (.fix (At.ptr 4 0 Off.z 4))), (5, .one (.fix (At.ptr 5 0 Off.z 4))), (6, .one (.fix (At.ptr 6 0 Off.z 4))), (7, .one (.int IntKind.i64))], items := [(3, .obj [.ints IntKind.u64 4]), (4, .obj [.ints IntKind.u64 4]), (5, .obj [.ints IntKind.u64 4]), (6, .obj [.ints IntKind.u64 4])] }
def f58_0_ex1 : Shp := { n := 36, lo := 2, slots := [(15, .one (.bool)), (3, .one (.fix (At.ptr 3 0 Off.z 4))), (4, .one (.fix (At.ptr 4 0 Off.z 4))), (5, .one (.fix (At.ptr 5 0 Off.z 4))), (6, .one (.fix (At.ptr 6 0 Off.z 4))), (7, .one (.int IntKind.i64))], items := [(3, .obj [.ints IntKind.u64 4]), (4, .obj [.ints IntKind.u64 4]), (5, .obj [.ints IntKind.u64 4]), (6, .obj [.ints IntKind.u64 4])] }
noncomputable def f58_0_st {R : Type} (N : Nat) (self : Int → List Int → List Int → List Int → List Int → Option R) (k1 : Bool → Int → List Int → List Int → List Int → List Int → Option R) (x1 : Int) (x2 : List Int) (x3 : List Int) (x4 : List Int) (x5 : List Int) : Option R :=
 bif Decidable.decide (x1 ≥ 0) then
 bif okW x5 && okN x5 then
 let v0 : Int := IntKind.i64.wrap (x1.tdiv 64);
 bif Decidable.decide (0 ≤ v0) && Decidable.decide (v0 < 4) then
 bif Decidable.decide (0 ≤ x1.tmod 64) then
 let v1 : Int := shrI IntKind.u64 (x2.getD (mulE v0.toNat 1) 0) (x1.tmod 64);
 let v2 : Int := andI IntKind.u64 v1 1;
 bif v2 == 1 then
 bif okW (wN (montN (nW x5) (nW x5))) && okN x4 then
 let v3 : Int := IntKind.i64.wrap (x1 - 1);
 self v3 x2 x3 x4 (wN (montN (nW (wN (montN (nW x5) (nW x5)))) (nW x4)))
 else Option.none
 else
 let v4 : Int := IntKind.i64.wrap (x1 - 1);
 self v4 x2 x3 x4 (wN (montN (nW x5) (nW x5)))
 else Option.none
 else Option.none
 else Option.none
else k1 (Decidable.decide (x1 ≥ 0)) x1 x2 x3 x4 x5
noncomputable def f58_0_lp {R : Type} (N : Nat) (k1 : Bool → Int → List Int → List Int → List Int → List Int → Option R) : Nat → Int → List Int → List Int → List Int → List Int → Option R
 | 0, _, _, _, _, _ => none
 | n + 1, x1, x2, x3, x4, x5 => f58_0_st N (f58_0_lp N k1 n) k1 x1 x2 x3 x4 x5
noncomputable def f58_0_F (N : Nat) : (R : Type) → List Leaf → (X → AS → Option R) → Option R := fun _ ls K => match ls with
 | [.i x1, .l x2, .l x3, .l x4, .l x5] => f58_0_lp N (fun y1 y2 y3 y4 y5 y6 => K (X.normal) (fill f58_0_ex1 [.b y1, .i y2, .l y3, .l y4, .l y5, .l y6])) N x1 x2 x3 x4 x5
 | _ => none
noncomputable def f58_raw {R : Type} (N : Nat) (x : List Int) (y : List Int) (k : List DV → Option R) : Option R :=
 bif okW x && okN radW then
 let v0 : List Int := (List.replicate 4 0).set 0 1;
 f58_0_lp N (fun w1_1 w1_2 w1_3 w1_4 w1_5 w1_6 => bif okW w1_6 && okN v0 then k [DV.v (SV.one (At.ints IntKind.u64 4 (wN (montN (nW w1_6) (nW v0)))))] else Option.none) N 255 y (List.replicate 4 0) (wN (montN (nW x) (nW radW))) (wN (montN (nW v0) (nW radW)))
else Option.none


noncomputable def E58 (N : Nat) : Env := { Θ := Th, Γ := G60, K := K58, ν := N58, fuel := 0, lp := [(0, mkL N58_0 f58_0_sh (f58_0_F N))] }

theorem f58_0_st_eq {R : Type} (N : Nat) (K : X → AS → Option R) (n : Nat) (x1 : Int) (x2 : List Int) (x3 : List Int) (x4 : List Int) (x5 : List Int) : roundsOf (E58 N) N58_0 0 B58_0 K (n + 1) (fill f58_0_sh [.i x1, .l x2, .l x3, .l x4, .l x5]) = f58_0_st N (fun x1 x2 x3 x4 x5 => roundsOf (E58 N) N58_0 0 B58_0 K n (fill f58_0_sh [.i x1, .l x2, .l x3, .l x4, .l x5])) (fun y1 y2 y3 y4 y5 y6 => K (X.normal) (fill f58_0_ex1 [.b y1, .i y2, .l y3, .l y4, .l y5, .l y6])) x1 x2 x3 x4 x5 := by kernel_rfl
theorem f58_0_lp_eq {R : Type} (N : Nat) (K : X → AS → Option R) : ∀ (n : Nat) (x1 : Int) (x2 : List Int) (x3 : List Int) (x4 : List Int) (x5 : List Int), roundsOf (E58 N) N58_0 0 B58_0 K n (fill f58_0_sh [.i x1, .l x2, .l x3, .l x4, .l x5]) = f58_0_lp N (fun y1 y2 y3 y4 y5 y6 => K (X.normal) (fill f58_0_ex1 [.b y1, .i y2, .l y3, .l y4, .l y5, .l y6])) n x1 x2 x3 x4 x5
  | 0, _, _, _, _, _ => rfl
  | n + 1, x1, x2, x3, x4, x5 => by
    rw [f58_0_st_eq, f58_0_lp, show (fun x1 x2 x3 x4 x5 => roundsOf (E58 N) N58_0 0 B58_0 K n (fill f58_0_sh [.i x1, .l x2, .l x3, .l x4, .l x5])) = f58_0_lp N (fun y1 y2 y3 y4 y5 y6 => K (X.normal) (fill f58_0_ex1 [.b y1, .i y2, .l y3, .l y4, .l y5, .l y6])) n from by funext x1 x2 x3 x4 x5; exact f58_0_lp_eq N K n x1 x2 x3 x4 x5]
theorem f58_0_ok (N : Nat) (hlp : LoopsOk Try.prog (E58 N).lp B58_0) (hΓ : CtxOk Try.prog (E58 N).Γ) : LoopOk Try.prog (mkL N58_0 f58_0_sh (f58_0_F N)) 0 B58_0 := by
  refine loopOk_of (E := E58 N) thOk hΓ mixed hlp ?_
  intro R ls K r h
  unfold f58_0_F at h
  split at h
  · exact ⟨N, by rw [f58_0_lp_eq]; exact h⟩
  · cases h

theorem lok58_0 (N : Nat) (hΓ : CtxOk Try.prog G60) : LoopOk Try.prog (mkL N58_0 f58_0_sh (f58_0_F N)) 0 B58_0 := f58_0_ok N (loopsOk_of (l := []) (by kernel_rfl) trivial) hΓ
theorem f58_contract (N : Nat) (hΓ : CtxOk Try.prog G60) : Contract Try.prog 58 { sig := S58, impl := fun _ ds k => call (E58 N) S58 36 B58 R58 ds k } :=
  call_contract (E := E58 N) thOk hΓ mixed ok58.look ok58.body ok58.n ok58.rv ok58.name rfl (by decide) (loopsOk_of (l := [(0, B58_0)]) (by kernel_rfl) (allOk_cons (L := mkL N58_0 f58_0_sh (f58_0_F N)) rfl (lok58_0 N hΓ) trivial))
theorem f58_raw_eq {R : Type} (N : Nat) (x : List Int) (y : List Int) (k : List DV → Option R) : call (E58 N) S58 36 B58 R58 [.v (.one (.ints .u64 4 x)), .v (.one (.ints .u64 4 y))] k = f58_raw N x y k := by kernel_rfl
end Go.Proofs.Ytogcijgklnfjjaa

namespace Go.Proofs.Ytogcijgklnfjjaa
open Go Go.Eng
set_option maxRecDepth 100000
set_option linter.unusedVariables false

noncomputable def f69_raw {R : Type} (N : Nat) (x : Int) (k : List DV → Option R) : Option R :=
 let v0 : List Int := (List.replicate 4 0).set 0 x;
k [DV.v (SV.one (At.ints IntKind.u8 32 (backL v0)))]


noncomputable def E69 (N : Nat) : Env := { Θ := Th, Γ := [(53, { sig := S53, impl := I53 })], K := K69, ν := N69, fuel := 0, lp := [] }


theorem f69_contract (N : Nat) (hΓ : CtxOk Try.prog [(53, { sig := S53, impl := I53 })]) : Contract Try.prog 69 { sig := S69, impl := fun _ ds k => call (E69 N) S69 6 B69 R69 ds k } :=
  call_contract (E := E69 N) thOk hΓ mixed ok69.look ok69.body ok69.n ok69.rv ok69.name rfl (by decide) (loopsOk_of (l := []) (by kernel_rfl) trivial)
theorem f69_raw_eq {R : Type} (N : Nat) (x : Int) (k : List DV → Option R) : call (E69 N) S69 6 B69 R69 [.v (.one (.int .u64 x))] k = f69_raw N x k := by kernel_rfl
end Go.Proofs.Ytogcijgklnfjjaa

namespace Go.Proofs.Ytogcijgklnfjjaa
open Go Go.Eng
set_option maxRecDepth 100000

theorem unR (c : Nat) : c * (WW ^ 4 * rinv) % ell = c % ell := by rw [Nat.mul_mod, rinv_ok, Nat.mul_one, Nat.mod_mod]
theorem montN_mod (a b : Nat) : montN (a % ell) (b % ell) = a * b * rinv % ell := by
  rw [montN_def, Nat.mul_mod (a % ell * (b % ell)), ← Nat.mul_mod a b, ← Nat.mul_mod]
noncomputable def mf : Nat → Nat := (stk fun v : Nat => v * WW ^ 4 % ell).1
theorem mf_def (v : Nat) : mf v = v * WW ^ 4 % ell := congrFun (stk fun v : Nat => v * WW ^ 4 % ell).2 v
theorem mf_lt (v : Nat) : mf v < ell := by rw [mf_def]; exact Nat.mod_lt _ ell_pos
theorem W8 : WW ^ 8 = WW ^ 4 * WW ^ 4 := by rw [← Nat.pow_add]
theorem mont_rad (a : Nat) : montN (a % ell) (nW radW) = mf a := by
  rw [radW_num, montN_mod, mf_def, W8, show a * (WW ^ 4 * WW ^ 4) * rinv = a * WW ^ 4 * (WW ^ 4 * rinv) by simp only [Nat.mul_assoc], unR]
theorem mont_mf (u v : Nat) : montN (mf u) (mf v) = mf (u * v) := by
  rw [mf_def, mf_def, montN_mod, mf_def, show u * WW ^ 4 * (v * WW ^ 4) * rinv = u * v * WW ^ 4 * (WW ^ 4 * rinv) by
    simp only [Nat.mul_assoc, Nat.mul_left_comm], unR]
theorem one_lt_ell : 1 < ell := by rw [ell_def]; decide
theorem mont_one (v : Nat) : montN (mf v) 1 = v % ell := by
  rw [mf_def, show (1 : Nat) = 1 % ell from (Nat.mod_eq_of_lt one_lt_ell).symm, montN_mod, Nat.mul_one, Nat.mul_assoc, unR]
theorem mont_mont (a b : Nat) : montN (montN a b) (nW radW) = a * b % ell := by
  rw [montN_def a b, mont_rad, mf_def, Nat.mul_assoc, Nat.mul_comm rinv, unR]

noncomputable def mulN : Nat → Nat → Nat := (stk fun a b : Nat => a * b % ell).1
theorem mulN_def (a b : Nat) : mulN a b = a * b % ell := congrFun (congrFun (stk fun a b : Nat => a * b % ell).2 a) b
theorem mulN_lt (a b : Nat) : mulN a b < ell := by rw [mulN_def]; exact Nat.mod_lt _ ell_pos
theorem okN_rad : okN radW = true := by
  unfold okN
  rw [radW_ok, radW_num, decide_eq_true (Nat.mod_lt _ ell_pos)]; rfl
theorem nW_wl {v : Nat} (h : v < ell) : nW (wN v) = v := nW_wN (lt_W4 h)
noncomputable def I60 : (R : Type) → List DV → (List DV → Option R) → Option R := fun _ ds k => match ds with
  | [.v (.one (.ints .u64 4 x)), .v (.one (.ints .u64 4 y))] => bif okN x && okN y then k [.v (.one (.ints .u64 4 (wN (mulN (nW x) (nW y)))))] else none
  | _ => none
theorem c60 : Contract Try.prog 60 { sig := S60, impl := I60 } := by
  refine Contract.refine fun R ds k r h => ⟨_, f60_contract 0 G60_ok, ?_⟩
  unfold I60 at h
  split at h
  · rename_i x y
    cases hc : okN x && okN y with
    | false => rw [hc] at h; cases h
    | true =>
      rw [hc] at h
      obtain ⟨h1, h2⟩ := Bool.and_eq_true _ _ ▸ hc
      rw [f60_raw_eq]
      unfold f60_raw
      rw [okN_W h1, h2, Bool.true_and, cond_true, okW_wN, okN_rad, Bool.true_and, cond_true, nW_wl (montN_lt _ _), mont_mont, ← mulN_def]
      exact h
  · cases h

theorem valB_get (b : Nat) (hb : 0 < b) : ∀ (l : List Nat), (∀ x ∈ l, x < b) → ∀ q : Nat, valB b l / b ^ q % b = l.getD q 0
  | [], _, q => by simp [valB]
  | x :: l, h, 0 => by
    simp only [valB, Nat.pow_zero, Nat.div_one, List.getD_cons_zero]
    rw [Nat.add_mul_mod_self_left, Nat.mod_eq_of_lt (h x (by simp))]
  | x :: l, h, q + 1 => by
    simp only [valB, List.getD_cons_succ]
    rw [Nat.pow_succ, Nat.mul_comm (b ^ q) b, ← Nat.div_div_eq_div_mul, Nat.add_mul_div_left _ _ hb, Nat.div_eq_of_lt (h x (by simp)), Nat.zero_add]
    exact valB_get b hb l (fun y hy => h y (by simp [hy])) q
theorem half_bit (X r : Nat) (hr : r < 64) : X % 18446744073709551616 / 2 ^ r % 2 = X / 2 ^ r % 2 := by
  have := Nat.testBit_mod_two_pow X 64 r
  rw [decide_eq_true hr, Bool.true_and, Nat.testBit_eq_decide_div_mod_eq, Nat.testBit_eq_decide_div_mod_eq, decide_eq_decide] at this
  have e : (2 : Nat) ^ 64 = 18446744073709551616 := by decide
  rw [e] at this
  have a1 := Nat.mod_two_eq_zero_or_one (X % 18446744073709551616 / 2 ^ r)
  have a2 := Nat.mod_two_eq_zero_or_one (X / 2 ^ r)
  omega
theorem bit_at {e : List Nat} (he : ∀ x ∈ e, x < WW) (i : Nat) : andI .u64 (shrI .u64 ((nats e).getD (i / 64) 0) ((i % 64 : Nat) : Int)) 1 = ((valB WW e / 2 ^ i % 2 : Nat) : Int) := by
  rw [nats_getD, shrN (k := .u64) (m := i % 64) (by have := Nat.mod_lt i (show 0 < 64 by decide); exact Nat.le_of_lt this)]
  have hw : e.getD (i / 64) 0 < 18446744073709551616 := by
    rw [← valB_get WW (by decide) e he]; exact Nat.mod_lt _ (by decide)
  have hd : e.getD (i / 64) 0 / 2 ^ (i % 64) < 2 ^ 64 := Nat.lt_of_le_of_lt (Nat.div_le_self _ _) hw
  refine (maskN (k := .u64) (j := 1) rfl hd (by decide)).trans ?_
  refine congrArg Int.ofNat ?_
  rw [Nat.pow_one, ← valB_get WW (by decide) e he, show WW = 18446744073709551616 from rfl, half_bit _ _ (Nat.mod_lt _ (by decide)), Nat.div_div_eq_div_mul]
  congr 2
  rw [show (18446744073709551616 : Nat) = 2 ^ 64 by decide, ← Nat.pow_mul, ← Nat.pow_add]
  congr 1
  omega

theorem pow_step (a v E j : Nat) : (v * v * (if E / 2 ^ j % 2 = 1 then a else 1)) ^ 2 ^ j * a ^ (E % 2 ^ j) = v ^ 2 ^ (j + 1) * a ^ (E % 2 ^ (j + 1)) := by
  have e := Nat.mod_mul (x := E) (a := 2 ^ j) (b := 2)
  rw [show (2 : Nat) ^ (j + 1) = 2 ^ j * 2 from Nat.pow_succ 2 j, e, show v ^ (2 ^ j * 2) = (v * v) ^ 2 ^ j by rw [Nat.mul_comm (2 ^ j) 2, Nat.pow_mul, Nat.pow_two]]
  rcases Nat.mod_two_eq_zero_or_one (E / 2 ^ j) with h | h
  · rw [h, if_neg (by decide), Nat.mul_one, Nat.mul_zero, Nat.add_zero]
  · rw [h, if_pos rfl, Nat.mul_one, Nat.mul_pow, Nat.pow_add, Nat.mul_assoc, Nat.mul_comm (a ^ 2 ^ j)]

theorem wrapI {a : Int} (h1 : -9223372036854775808 ≤ a) (h2 : a < 9223372036854775808) : IntKind.i64.wrap a = a := by
  simp [IntKind.wrap, IntKind.bits, IntKind.signed]; omega

theorem f58_loop {R : Type} (N : Nat) (k1 : Bool → Int → List Int → List Int → List Int → List Int → Option R) {e : List Nat} (hl : e.length = 4) (he : ∀ x ∈ e, x < WW) (a : Nat) (z : List Int) :
    ∀ (j : Nat), j ≤ 256 → ∀ (fuel v : Nat), j < fuel → f58_0_lp N k1 fuel ((j : Int) - 1) (nats e) z (wN (mf a)) (wN (mf v)) = k1 false (-1) (nats e) z (wN (mf a)) (wN (mf (v ^ 2 ^ j * a ^ (valB WW e % 2 ^ j)))) := by
  intro j
  induction j with
  | zero =>
    intro _ fuel v hf
    obtain ⟨fuel, rfl⟩ : ∃ n, fuel = n + 1 := ⟨fuel - 1, by omega⟩
    show f58_0_st N (f58_0_lp N k1 fuel) k1 (-1) (nats e) z (wN (mf a)) (wN (mf v)) = _
    unfold f58_0_st
    rw [decide_eq_false (show ¬ ((-1 : Int) ≥ 0) by decide), cond_false, Nat.pow_zero, Nat.pow_one, Nat.mod_one, Nat.pow_zero, Nat.mul_one]
  | succ j ih =>
    intro hj fuel v hf
    obtain ⟨fuel, rfl⟩ : ∃ n, fuel = n + 1 := ⟨fuel - 1, by omega⟩
    have ei : ((j + 1 : Nat) : Int) - 1 = (j : Int) := by omega
    rw [ei]
    show f58_0_st N (f58_0_lp N k1 fuel) k1 (j : Int) (nats e) z (wN (mf a)) (wN (mf v)) = _
    unfold f58_0_st
    have hq : j / 64 < 4 := by omega
    have hd : IntKind.i64.wrap ((j : Int).tdiv 64) = ((j / 64 : Nat) : Int) := by
      rw [show (j : Int).tdiv 64 = ((j / 64 : Nat) : Int) from rfl]
      exact wi64 (by omega)
    have hm : (j : Int).tmod 64 = ((j % 64 : Nat) : Int) := rfl
    have hmul : mulE ((j / 64 : Nat) : Int).toNat 1 = j / 64 := by
      rfl
    have hs : IntKind.i64.wrap ((j : Int) - 1) = (j : Int) - 1 := wrapI (by omega) (by omega)
    dsimp only
    rw [decide_eq_true (show ((j : Int) ≥ 0) by omega), cond_true, okW_wN, okN_wN (mf_lt v), Bool.and_self, cond_true, hd, hm,
      decide_eq_true (show (0 : Int) ≤ ((j / 64 : Nat) : Int) by omega), decide_eq_true (show ((j / 64 : Nat) : Int) < 4 by omega), Bool.and_self, cond_true,
      decide_eq_true (show (0 : Int) ≤ ((j % 64 : Nat) : Int) by omega), cond_true, hmul, bit_at he j, hs, okW_wN, okN_wN (mf_lt a), Bool.and_self, cond_true,
      nW_wl (mf_lt v), mont_mf, nW_wl (mf_lt _), nW_wl (mf_lt a), mont_mf, ih (by omega) fuel _ (by omega), ih (by omega) fuel _ (by omega)]
    have hp := pow_step a v (valB WW e) j
    rcases Nat.mod_two_eq_zero_or_one (valB WW e / 2 ^ j) with h | h
    · rw [h] at hp ⊢
      rw [if_neg (by decide), Nat.mul_one] at hp
      rw [show (((0 : Nat) : Int) == 1) = false from rfl, cond_false, hp]
    · rw [h] at hp ⊢
      rw [if_pos rfl] at hp
      rw [show (((1 : Nat) : Int) == 1) = true from rfl, cond_true, hp]

noncomputable def powN : Nat → Nat → Nat := (stk fun a e : Nat => a ^ e % ell).1
theorem powN_def (a e : Nat) : powN a e = a ^ e % ell := congrFun (congrFun (stk fun a e : Nat => a ^ e % ell).2 a) e
theorem powN_lt (a b : Nat) : powN a b < ell := by rw [powN_def]; exact Nat.mod_lt _ ell_pos
theorem wN_one : (List.replicate 4 (0 : Int)).set 0 1 = wN 1 := by rw [wN_def]; decide
theorem power_num {R : Type} {x y : List Int} (hx : okN x = true) (hy : okW y = true) (k : List DV → Option R) :
    f58_raw 300 x y k = k [.v (.one (.ints .u64 4 (wN (powN (nW x) (nW y)))))] := by
  have hb := nW_lt hy
  obtain ⟨e, rfl, h1, h2⟩ := okW_of hy
  rw [nW_nats] at hb ⊢
  unfold f58_raw
  dsimp only
  have hx' : nW x = nW x % ell := (Nat.mod_eq_of_lt (okN_lt hx)).symm
  have e1 : montN (nW x) (nW radW) = mf (nW x) := by rw [hx', mont_rad]; rw [← hx']
  have e2 : montN (nW (wN 1)) (nW radW) = mf 1 := by
    rw [nW_wl one_lt_ell]
    have := mont_rad 1
    rwa [Nat.mod_eq_of_lt one_lt_ell] at this
  rw [okN_W hx, okN_rad, Bool.and_self, cond_true, wN_one, e1, e2]
  obtain ⟨n, hn⟩ : ∃ n : Nat, n = 256 := ⟨256, rfl⟩
  rw [show (255 : Int) = (n : Int) - 1 by omega, f58_loop 300 _ h1 h2 (nW x) (List.replicate 4 0) n (by omega) 300 1 (by omega)]
  rw [okW_wN, okN_wN one_lt_ell, Bool.and_self, cond_true, nW_wl (mf_lt _), nW_wl one_lt_ell, mont_one, Nat.one_pow, Nat.one_mul,
    Nat.mod_eq_of_lt (show valB WW e < 2 ^ n by rw [hn, show (2 : Nat) ^ 256 = WW ^ 4 by decide +kernel]; exact hb), ← powN_def]
noncomputable def I58 : (R : Type) → List DV → (List DV → Option R) → Option R := fun _ ds k => match ds with
  | [.v (.one (.ints .u64 4 x)), .v (.one (.ints .u64 4 y))] => bif okN x && okW y then k [.v (.one (.ints .u64 4 (wN (powN (nW x) (nW y)))))] else none
  | _ => none
theorem c58 : Contract Try.prog 58 { sig := S58, impl := I58 } := by
  refine Contract.refine fun R ds k r h => ⟨_, f58_contract 300 G60_ok, ?_⟩
  unfold I58 at h
  split at h
  · rename_i x y
    cases hc : okN x && okW y with
    | false => rw [hc] at h; cases h
    | true =>
      rw [hc] at h
      obtain ⟨h1, h2⟩ := Bool.and_eq_true _ _ ▸ hc
      rw [f58_raw_eq, power_num h1 h2]; exact h
  · cases h

def okU (x : Int) : Bool := decide (0 ≤ x) && decide (x < 18446744073709551616)
theorem okU_of {x : Int} (h : okU x = true) : ∃ n : Nat, x = (n : Int) ∧ n < 18446744073709551616 := by
  unfold okU at h
  rw [Bool.and_eq_true] at h
  have h1 := of_decide_eq_true h.1
  have h2 := of_decide_eq_true h.2
  exact ⟨x.toNat, by omega, by omega⟩
noncomputable def I69 : (R : Type) → List DV → (List DV → Option R) → Option R := fun _ ds k => match ds with
  | [.v (.one (.int .u64 x))] => bif okU x then k [.v (.one (.ints .u8 32 (sN x.toNat)))] else none
  | _ => none
theorem c69 : Contract Try.prog 69 { sig := S69, impl := I69 } := by
  refine Contract.refine fun R ds k r h => ⟨_, f69_contract 0 (ctxOk_cons ok53 rfl c53 ctxOk_nil), ?_⟩
  unfold I69 at h
  split at h
  · rename_i x
    cases hc : okU x with
    | false => rw [hc] at h; cases h
    | true =>
      rw [hc] at h
      obtain ⟨n, rfl, hn⟩ := okU_of hc
      have e : (List.replicate 4 (0 : Int)).set 0 (n : Int) = wN n := wN_of (l := [n, 0, 0, 0]) rfl rfl (by
        simp only [List.mem_cons, List.not_mem_nil, or_false, forall_eq_or_imp, forall_eq]
        unfold WW; omega) (by simp [valB])
      rw [f69_raw_eq]
      unfold f69_raw
      dsimp only
      rw [e, back_wN (show n < WW ^ 4 by rw [W4]; omega)]
      exact h
  · cases h
end Go.Proofs.Ytogcijgklnfjjaa

namespace Go.Proofs.Ytogcijgklnfjjaa
open Go Go.Eng
set_option maxRecDepth 100000

noncomputable def I53n : (R : Type) → List DV → (List DV → Option R) → Option R := fun _ ds k => match ds with
  | [.v (.one (.ints .u64 4 x))] => bif okW x then k [.v (.one (.ints .u8 32 (sN (nW x))))] else none
  | _ => none
theorem c53n : Contract Try.prog 53 { sig := S53, impl := I53n } := by
  refine Contract.refine fun R ds k r h => ⟨_, c53, ?_⟩
  unfold I53n at h
  unfold I53
  split at h
  · rename_i x
    cases hc : okW x with
    | false => rw [hc] at h; cases h
    | true =>
      rw [hc] at h
      show k [.v (.one (.ints .u8 32 (backL x)))] = some r
      rw [show backL x = sN (nW x) by rw [← back_wN (nW_lt hc), wN_nW hc]]
      exact h
  · cases h
def ordW2 : List Int := [6346243789798364139, 1503914060200516822, 0, 1152921504606846976]
theorem ord2 : lessL ordW [2, 0, 0, 0] = ordW2 := by
  rw [(less_num ordW_ok (by decide)).1, ordW_num, show nW [2, 0, 0, 0] = 2 by decide]
  refine (wN_of (l := [6346243789798364139, 1503914060200516822, 0, 1152921504606846976]) rfl rfl (by decide) ?_).symm
  rw [ell_def, W4]; decide +kernel
noncomputable def I56n : (R : Type) → List DV → (List DV → Option R) → Option R := fun _ ds k => match ds with
  | [.v (.one (.ints .u64 4 x)), .v (.one (.ints .u64 4 y))] => bif decide (x = ordW) && decide (y = [2, 0, 0, 0]) then k [.v (.one (.ints .u64 4 ordW2)), .v (.one (.int .u64 0))] else none
  | _ => none
theorem c56n : Contract Try.prog 56 { sig := S56, impl := I56n } := by
  refine Contract.refine fun R ds k r h => ⟨_, c56, ?_⟩
  unfold I56n at h
  unfold I56
  split at h
  · rename_i x y
    cases hc : decide (x = ordW) && decide (y = [2, 0, 0, 0]) with
    | false => rw [hc] at h; cases h
    | true =>
      rw [hc] at h
      obtain ⟨h1, h2⟩ := Bool.and_eq_true _ _ ▸ hc
      have h1 := of_decide_eq_true h1
      have h2 := of_decide_eq_true h2
      subst h1; subst h2
      show k [.v (.one (.ints .u64 4 (lessL ordW [2, 0, 0, 0]))), .v (.one (.int .u64 (under ordW [2, 0, 0, 0])))] = some r
      rw [ord2, (less_num ordW_ok (show okW [2, 0, 0, 0] = true by decide)).2, ordW_num, show nW [2, 0, 0, 0] = 2 by decide, if_neg (by rw [ell_def]; decide)]
      exact h
  · cases h
noncomputable def GS : Ctx := [(53, { sig := S53, impl := I53n }), (54, { sig := S54, impl := I54 }), (55, { sig := S55, impl := I55 }), (56, { sig := S56, impl := I56n }), (57, { sig := S57, impl := I57 }), (58, { sig := S58, impl := I58 }), (59, { sig := S59, impl := I59 }), (60, { sig := S60, impl := I60 })]
theorem GS_ok : CtxOk Try.prog GS := ctxOk_cons ok53 rfl c53n (ctxOk_cons ok54 rfl c54 (ctxOk_cons ok55 rfl c55 (ctxOk_cons ok56 rfl c56n (ctxOk_cons ok57 rfl c57 (ctxOk_cons ok58 rfl c58 (ctxOk_cons ok59 rfl c59 (ctxOk_cons ok60 rfl c60 ctxOk_nil)))))))
end Go.Proofs.Ytogcijgklnfjjaa

namespace Go.Proofs.Ytogcijgklnfjjaa
open Go Go.Eng
set_option maxRecDepth 100000
set_option linter.unusedVariables false

noncomputable def f30_raw {R : Type} (N : Nat) (x : List Int) (y : List Int) (k : List DV → Option R) : Option R :=
 bif okB x then bif okB y then bif okN (wN (vS x)) && okN (wN (vS y)) then bif okW (wN (addN (nW (wN (vS x))) (nW (wN (vS y))))) then k [DV.v (SV.one (At.ints IntKind.u8 32 (sN (nW (wN (addN (nW (wN (vS x))) (nW (wN (vS y)))))))))] else Option.none else Option.none else Option.none else Option.none


noncomputable def E30 (N : Nat) : Env := { Θ := Th, Γ := GS, K := K30, ν := N30, fuel := 0, lp := [] }


theorem f30_contract (N : Nat) (hΓ : CtxOk Try.prog GS) : Contract Try.prog 30 { sig := S30, impl := fun _ ds k => call (E30 N) S30 11 B30 R30 ds k } :=
  call_contract (E := E30 N) thOk hΓ mixed ok30.look ok30.body ok30.n ok30.rv ok30.name rfl (by decide) (loopsOk_of (l := []) (by kernel_rfl) trivial)
theorem f30_raw_eq {R : Type} (N : Nat) (x : List Int) (y : List Int) (k : List DV → Option R) : call (E30 N) S30 11 B30 R30 [.v (.one (.ints .u8 32 x)), .v (.one (.ints .u8 32 y))] k = f30_raw N x y k := by kernel_rfl
end Go.Proofs.Ytogcijgklnfjjaa

namespace Go.Proofs.Ytogcijgklnfjjaa
open Go Go.Eng
set_option maxRecDepth 100000
set_option linter.unusedVariables false

noncomputable def f32_raw {R : Type} (N : Nat) (x : List Int) (y : List Int) (k : List DV → Option R) : Option R :=
 bif okB x then bif okB y then bif okN (wN (vS y)) then bif okN (wN (vS x)) && okN (wN (negN (nW (wN (vS y))))) then bif okW (wN (addN (nW (wN (vS x))) (nW (wN (negN (nW (wN (vS y)))))))) then k [DV.v (SV.one (At.ints IntKind.u8 32 (sN (nW (wN (addN (nW (wN (vS x))) (nW (wN (negN (nW (wN (vS y))))))))))))] else Option.none else Option.none else Option.none else Option.none else Option.none


noncomputable def E32 (N : Nat) : Env := { Θ := Th, Γ := GS, K := K32, ν := N32, fuel := 0, lp := [] }


theorem f32_contract (N : Nat) (hΓ : CtxOk Try.prog GS) : Contract Try.prog 32 { sig := S32, impl := fun _ ds k => call (E32 N) S32 12 B32 R32 ds k } :=
  call_contract (E := E32 N) thOk hΓ mixed ok32.look ok32.body ok32.n ok32.rv ok32.name rfl (by decide) (loopsOk_of (l := []) (by kernel_rfl) trivial)
theorem f32_raw_eq {R : Type} (N : Nat) (x : List Int) (y : List Int) (k : List DV → Option R) : call (E32 N) S32 12 B32 R32 [.v (.one (.ints .u8 32 x)), .v (.one (.ints .u8 32 y))] k = f32_raw N x y k := by kernel_rfl
end Go.Proofs.Ytogcijgklnfjjaa

namespace Go.Proofs.Ytogcijgklnfjjaa
open Go Go.Eng
set_option maxRecDepth 100000
set_option linter.unusedVariables false

noncomputable def f33_raw {R : Type} (N : Nat) (x : List Int) (y : List Int) (k : List DV → Option R) : Option R :=
 bif okB x then bif okB y then bif okN (wN (vS x)) && okN (wN (vS y)) then bif okW (wN (mulN (nW (wN (vS x))) (nW (wN (vS y))))) then k [DV.v (SV.one (At.ints IntKind.u8 32 (sN (nW (wN (mulN (nW (wN (vS x))) (nW (wN (vS y)))))))))] else Option.none else Option.none else Option.none else Option.none


noncomputable def E33 (N : Nat) : Env := { Θ := Th, Γ := GS, K := K33, ν := N33, fuel := 0, lp := [] }


theorem f33_contract (N : Nat) (hΓ : CtxOk Try.prog GS) : Contract Try.prog 33 { sig := S33, impl := fun _ ds k => call (E33 N) S33 11 B33 R33 ds k } :=
  call_contract (E := E33 N) thOk hΓ mixed ok33.look ok33.body ok33.n ok33.rv ok33.name rfl (by decide) (loopsOk_of (l := []) (by kernel_rfl) trivial)
theorem f33_raw_eq {R : Type} (N : Nat) (x : List Int) (y : List Int) (k : List DV → Option R) : call (E33 N) S33 11 B33 R33 [.v (.one (.ints .u8 32 x)), .v (.one (.ints .u8 32 y))] k = f33_raw N x y k := by kernel_rfl
end Go.Proofs.Ytogcijgklnfjjaa

namespace Go.Proofs.Ytogcijgklnfjjaa
open Go Go.Eng
set_option maxRecDepth 100000
set_option linter.unusedVariables false

noncomputable def f42_raw {R : Type} (N : Nat) (x : List Int) (y : List Int) (z : List Int) (k : List DV → Option R) : Option R :=
 bif okB x then bif okB y then bif okN (wN (vS x)) && okN (wN (vS y)) then bif okB z then bif okN (wN (mulN (nW (wN (vS x))) (nW (wN (vS y))))) && okN (wN (vS z)) then bif okW (wN (addN (nW (wN (mulN (nW (wN (vS x))) (nW (wN (vS y)))))) (nW (wN (vS z))))) then k [DV.v (SV.one (At.ints IntKind.u8 32 (sN (nW (wN (addN (nW (wN (mulN (nW (wN (vS x))) (nW (wN (vS y)))))) (nW (wN (vS z)))))))))] else Option.none else Option.none else Option.none else Option.none else Option.none else Option.none


noncomputable def E42 (N : Nat) : Env := { Θ := Th, Γ := GS, K := K42, ν := N42, fuel := 0, lp := [] }


theorem f42_contract (N : Nat) (hΓ : CtxOk Try.prog GS) : Contract Try.prog 42 { sig := S42, impl := fun _ ds k => call (E42 N) S42 16 B42 R42 ds k } :=
  call_contract (E := E42 N) thOk hΓ mixed ok42.look ok42.body ok42.n ok42.rv ok42.name rfl (by decide) (loopsOk_of (l := []) (by kernel_rfl) trivial)
theorem f42_raw_eq {R : Type} (N : Nat) (x : List Int) (y : List Int) (z : List Int) (k : List DV → Option R) : call (E42 N) S42 16 B42 R42 [.v (.one (.ints .u8 32 x)), .v (.one (.ints .u8 32 y)), .v (.one (.ints .u8 32 z))] k = f42_raw N x y z k := by kernel_rfl
end Go.Proofs.Ytogcijgklnfjjaa

namespace Go.Proofs.Ytogcijgklnfjjaa
open Go Go.Eng
set_option maxRecDepth 100000
set_option linter.unusedVariables false

noncomputable def f71_raw {R : Type} (N : Nat) (x : List Int) (k : List DV → Option R) : Option R :=
 bif okB x then bif okN (wN (vS x)) then bif okW (wN (negN (nW (wN (vS x))))) then k [DV.v (SV.one (At.ints IntKind.u8 32 (sN (nW (wN (negN (nW (wN (vS x)))))))))] else Option.none else Option.none else Option.none


noncomputable def E71 (N : Nat) : Env := { Θ := Th, Γ := GS, K := K71, ν := N71, fuel := 0, lp := [] }


theorem f71_contract (N : Nat) (hΓ : CtxOk Try.prog GS) : Contract Try.prog 71 { sig := S71, impl := fun _ ds k => call (E71 N) S71 7 B71 R71 ds k } :=
  call_contract (E := E71 N) thOk hΓ mixed ok71.look ok71.body ok71.n ok71.rv ok71.name rfl (by decide) (loopsOk_of (l := []) (by kernel_rfl) trivial)
theorem f71_raw_eq {R : Type} (N : Nat) (x : List Int) (k : List DV → Option R) : call (E71 N) S71 7 B71 R71 [.v (.one (.ints .u8 32 x))] k = f71_raw N x k := by kernel_rfl
end Go.Proofs.Ytogcijgklnfjjaa

namespace Go.Proofs.Ytogcijgklnfjjaa
open Go Go.Eng
set_option maxRecDepth 100000
set_option linter.unusedVariables false

noncomputable def f88_raw {R : Type} (N : Nat) (x : List Int) (k : List DV → Option R) : Option R :=
 bif okB x then k [DV.v (SV.one (At.bool (Decidable.decide (wN (vS x) = List.replicate 4 0))))] else Option.none


noncomputable def E88 (N : Nat) : Env := { Θ := Th, Γ := GS, K := K88, ν := N88, fuel := 0, lp := [] }


theorem f88_contract (N : Nat) (hΓ : CtxOk Try.prog GS) : Contract Try.prog 88 { sig := S88, impl := fun _ ds k => call (E88 N) S88 7 B88 R88 ds k } :=
  call_contract (E := E88 N) thOk hΓ mixed ok88.look ok88.body ok88.n ok88.rv ok88.name rfl (by decide) (loopsOk_of (l := []) (by kernel_rfl) trivial)
theorem f88_raw_eq {R : Type} (N : Nat) (x : List Int) (k : List DV → Option R) : call (E88 N) S88 7 B88 R88 [.v (.one (.ints .u8 32 x))] k = f88_raw N x k := by kernel_rfl
end Go.Proofs.Ytogcijgklnfjjaa

namespace Go.Proofs.Ytogcijgklnfjjaa
open Go Go.Eng
set_option maxRecDepth 100000
set_option linter.unusedVariables false

noncomputable def f31_raw {R : Type} (N : Nat) (x : List Int) (k : List DV → Option R) : Option R :=
 bif okB x then bif Decidable.decide (wN (vS x) = List.replicate 4 0) then k [DV.v (SV.one (At.ints IntKind.u8 32 (List.replicate 32 0))), DV.v (SV.one (At.int IntKind.i64 9))] else bif okN (wN (vS x)) && okW ordW2 then bif okW (wN (powN (nW (wN (vS x))) (nW ordW2))) then k [DV.v (SV.one (At.ints IntKind.u8 32 (sN (nW (wN (powN (nW (wN (vS x))) (nW ordW2))))))), DV.v (SV.one (At.int IntKind.i64 0))] else Option.none else Option.none else Option.none


noncomputable def E31 (N : Nat) : Env := { Θ := Th, Γ := GS, K := K31, ν := N31, fuel := 0, lp := [] }


theorem f31_contract (N : Nat) (hΓ : CtxOk Try.prog GS) : Contract Try.prog 31 { sig := S31, impl := fun _ ds k => call (E31 N) S31 23 B31 R31 ds k } :=
  call_contract (E := E31 N) thOk hΓ mixed ok31.look ok31.body ok31.n ok31.rv ok31.name rfl (by decide) (loopsOk_of (l := []) (by kernel_rfl) trivial)
theorem f31_raw_eq {R : Type} (N : Nat) (x : List Int) (k : List DV → Option R) : call (E31 N) S31 23 B31 R31 [.v (.one (.ints .u8 32 x))] k = f31_raw N x k := by kernel_rfl
end Go.Proofs.Ytogcijgklnfjjaa

namespace Go.Proofs.Ytogcijgklnfjjaa
open Go Go.Eng
set_option maxRecDepth 100000

noncomputable def difN (a b : Nat) : Nat := addN a (negN b)
theorem difN_lt (a b : Nat) : difN a b < ell := addN_lt _ _
noncomputable def invN : Nat → Nat := (stk fun a : Nat => powN a (ell - 2)).1
theorem invN_def (a : Nat) : invN a = powN a (ell - 2) := congrFun (stk fun a : Nat => powN a (ell - 2)).2 a
theorem invN_lt (a : Nat) : invN a < ell := by rw [invN_def]; exact powN_lt _ _
theorem ordW2_ok : okW ordW2 = true := by decide
theorem ordW2_num : nW ordW2 = ell - 2 := by rw [ell_def]; decide +kernel
theorem w_zero (x : List Int) : decide (wN (vS x) = List.replicate 4 0) = decide (vS x = 0) := by
  rw [wN_zero]; exact decide_eq_decide.mpr (nW_inj (lt_W4 (vS_lt x)) (by decide))
theorem vS_sN {v : Nat} (h : v < ell) : vS (sN v) = v := by rw [vS_def, numB_sN (lt_W4 h), Nat.mod_eq_of_lt h]

noncomputable def I30 : (R : Type) → List DV → (List DV → Option R) → Option R := fun _ ds k => match ds with
  | [.v (.one (.ints .u8 32 x)), .v (.one (.ints .u8 32 y))] => bif okB x && okB y then k [.v (.one (.ints .u8 32 (sN (addN (vS x) (vS y)))))] else none
  | _ => none
theorem c30 : Contract Try.prog 30 { sig := S30, impl := I30 } := by
  refine Contract.refine fun R ds k r h => ⟨_, f30_contract 0 GS_ok, ?_⟩
  unfold I30 at h
  split at h
  · rename_i x y
    cases hc : okB x && okB y with
    | false => rw [hc] at h; cases h
    | true =>
      rw [hc] at h
      obtain ⟨h1, h2⟩ := Bool.and_eq_true _ _ ▸ hc
      rw [f30_raw_eq]
      unfold f30_raw
      simp only [h1, h2, cond_true, Bool.and_self, okN_wN (vS_lt _), okN_wN (negN_lt _), okN_wN (addN_lt _ _), okN_wN (mulN_lt _ _), okW_wN, nW_wl (vS_lt _), nW_wl (negN_lt _), nW_wl (addN_lt _ _), nW_wl (mulN_lt _ _), nW_wl (powN_lt _ _), nW_wl (invN_lt _), w_zero, ordW2_ok, ordW2_num, ← invN_def]
      exact h
  · cases h

noncomputable def I32 : (R : Type) → List DV → (List DV → Option R) → Option R := fun _ ds k => match ds with
  | [.v (.one (.ints .u8 32 x)), .v (.one (.ints .u8 32 y))] => bif okB x && okB y then k [.v (.one (.ints .u8 32 (sN (difN (vS x) (vS y)))))] else none
  | _ => none
theorem c32 : Contract Try.prog 32 { sig := S32, impl := I32 } := by
  refine Contract.refine fun R ds k r h => ⟨_, f32_contract 0 GS_ok, ?_⟩
  unfold I32 at h
  split at h
  · rename_i x y
    cases hc : okB x && okB y with
    | false => rw [hc] at h; cases h
    | true =>
      rw [hc] at h
      obtain ⟨h1, h2⟩ := Bool.and_eq_true _ _ ▸ hc
      rw [f32_raw_eq]
      unfold f32_raw
      simp only [h1, h2, cond_true, Bool.and_self, okN_wN (vS_lt _), okN_wN (negN_lt _), okN_wN (addN_lt _ _), okN_wN (mulN_lt _ _), okW_wN, nW_wl (vS_lt _), nW_wl (negN_lt _), nW_wl (addN_lt _ _), nW_wl (mulN_lt _ _), nW_wl (powN_lt _ _), nW_wl (invN_lt _), w_zero, ordW2_ok, ordW2_num, ← invN_def]
      exact h
  · cases h

noncomputable def I33 : (R : Type) → List DV → (List DV → Option R) → Option R := fun _ ds k => match ds with
  | [.v (.one (.ints .u8 32 x)), .v (.one (.ints .u8 32 y))] => bif okB x && okB y then k [.v (.one (.ints .u8 32 (sN (mulN (vS x) (vS y)))))] else none
  | _ => none
theorem c33 : Contract Try.prog 33 { sig := S33, impl := I33 } := by
  refine Contract.refine fun R ds k r h => ⟨_, f33_contract 0 GS_ok, ?_⟩
  unfold I33 at h
  split at h
  · rename_i x y
    cases hc : okB x && okB y with
    | false => rw [hc] at h; cases h
    | true =>
      rw [hc] at h
      obtain ⟨h1, h2⟩ := Bool.and_eq_true _ _ ▸ hc
      rw [f33_raw_eq]
      unfold f33_raw
      simp only [h1, h2, cond_true, Bool.and_self, okN_wN (vS_lt _), okN_wN (negN_lt _), okN_wN (addN_lt _ _), okN_wN (mulN_lt _ _), okW_wN, nW_wl (vS_lt _), nW_wl (negN_lt _), nW_wl (addN_lt _ _), nW_wl (mulN_lt _ _), nW_wl (powN_lt _ _), nW_wl (invN_lt _), w_zero, ordW2_ok, ordW2_num, ← invN_def]
      exact h
  · cases h

noncomputable def I42 : (R : Type) → List DV → (List DV → Option R) → Option R := fun _ ds k => match ds with
  | [.v (.one (.ints .u8 32 x)), .v (.one (.ints .u8 32 y)), .v (.one (.ints .u8 32 z))] => bif okB x && okB y && okB z then k [.v (.one (.ints .u8 32 (sN (addN (mulN (vS x) (vS y)) (vS z)))))] else none
  | _ => none
theorem c42 : Contract Try.prog 42 { sig := S42, impl := I42 } := by
  refine Contract.refine fun R ds k r h => ⟨_, f42_contract 0 GS_ok, ?_⟩
  unfold I42 at h
  split at h
  · rename_i x y z
    cases hc : okB x && okB y && okB z with
    | false => rw [hc] at h; cases h
    | true =>
      rw [hc] at h
      obtain ⟨h12, h3⟩ := Bool.and_eq_true _ _ ▸ hc
      obtain ⟨h1, h2⟩ := Bool.and_eq_true _ _ ▸ h12
      rw [f42_raw_eq]
      unfold f42_raw
      simp only [h1, h2, h3, cond_true, Bool.and_self, okN_wN (vS_lt _), okN_wN (negN_lt _), okN_wN (addN_lt _ _), okN_wN (mulN_lt _ _), okW_wN, nW_wl (vS_lt _), nW_wl (negN_lt _), nW_wl (addN_lt _ _), nW_wl (mulN_lt _ _), nW_wl (powN_lt _ _), nW_wl (invN_lt _), w_zero, ordW2_ok, ordW2_num, ← invN_def]
      exact h
  · cases h

noncomputable def I71 : (R : Type) → List DV → (List DV → Option R) → Option R := fun _ ds k => match ds with
  | [.v (.one (.ints .u8 32 x))] => bif okB x then k [.v (.one (.ints .u8 32 (sN (negN (vS x)))))] else none
  | _ => none
theorem c71 : Contract Try.prog 71 { sig := S71, impl := I71 } := by
  refine Contract.refine fun R ds k r h => ⟨_, f71_contract 0 GS_ok, ?_⟩
  unfold I71 at h
  split at h
  · rename_i x
    cases hc : okB x with
    | false => rw [hc] at h; cases h
    | true =>
      rw [hc] at h
      have h1 := hc
      rw [f71_raw_eq]
      unfold f71_raw
      simp only [h1, cond_true, Bool.and_self, okN_wN (vS_lt _), okN_wN (negN_lt _), okN_wN (addN_lt _ _), okN_wN (mulN_lt _ _), okW_wN, nW_wl (vS_lt _), nW_wl (negN_lt _), nW_wl (addN_lt _ _), nW_wl (mulN_lt _ _), nW_wl (powN_lt _ _), nW_wl (invN_lt _), w_zero, ordW2_ok, ordW2_num, ← invN_def]
      exact h
  · cases h

noncomputable def I88 : (R : Type) → List DV → (List DV → Option R) → Option R := fun _ ds k => match ds with
  | [.v (.one (.ints .u8 32 x))] => bif okB x then k [.v (.one (.bool (decide (vS x = 0))))] else none
  | _ => none
theorem c88 : Contract Try.prog 88 { sig := S88, impl := I88 } := by
  refine Contract.refine fun R ds k r h => ⟨_, f88_contract 0 GS_ok, ?_⟩
  unfold I88 at h
  split at h
  · rename_i x
    cases hc : okB x with
    | false => rw [hc] at h; cases h
    | true =>
      rw [hc] at h
      have h1 := hc
      rw [f88_raw_eq]
      unfold f88_raw
      simp only [h1, cond_true, Bool.and_self, okN_wN (vS_lt _), okN_wN (negN_lt _), okN_wN (addN_lt _ _), okN_wN (mulN_lt _ _), okW_wN, nW_wl (vS_lt _), nW_wl (negN_lt _), nW_wl (addN_lt _ _), nW_wl (mulN_lt _ _), nW_wl (powN_lt _ _), nW_wl (invN_lt _), w_zero, ordW2_ok, ordW2_num, ← invN_def]
      exact h
  · cases h

noncomputable def I31 : (R : Type) → List DV → (List DV → Option R) → Option R := fun _ ds k => match ds with
  | [.v (.one (.ints .u8 32 x))] => bif okB x then (bif decide (vS x = 0) then k [.v (.one (.ints .u8 32 (List.replicate 32 0))), .v (.one (.int .i64 9))] else k [.v (.one (.ints .u8 32 (sN (invN (vS x))))), .v (.one (.int .i64 0))]) else none
  | _ => none
theorem c31 : Contract Try.prog 31 { sig := S31, impl := I31 } := by
  refine Contract.refine fun R ds k r h => ⟨_, f31_contract 0 GS_ok, ?_⟩
  unfold I31 at h
  split at h
  · rename_i x
    cases hc : okB x with
    | false => rw [hc] at h; cases h
    | true =>
      rw [hc] at h
      have h1 := hc
      rw [f31_raw_eq]
      unfold f31_raw
      simp only [h1, cond_true, Bool.and_self, okN_wN (vS_lt _), okN_wN (negN_lt _), okN_wN (addN_lt _ _), okN_wN (mulN_lt _ _), okW_wN, nW_wl (vS_lt _), nW_wl (negN_lt _), nW_wl (addN_lt _ _), nW_wl (mulN_lt _ _), nW_wl (powN_lt _ _), nW_wl (invN_lt _), w_zero, ordW2_ok, ordW2_num, ← invN_def]
      exact h
  · cases h

noncomputable def GX : Ctx := [(30, { sig := S30, impl := I30 }), (31, { sig := S31, impl := I31 }), (32, { sig := S32, impl := I32 }), (33, { sig := S33, impl := I33 }), (42, { sig := S42, impl := I42 }), (69, { sig := S69, impl := I69 }), (71, { sig := S71, impl := I71 }), (88, { sig := S88, impl := I88 })] ++ GS
theorem GX_ok : CtxOk Try.prog GX := ctxOk_cons ok30 rfl c30 (ctxOk_cons ok31 rfl c31 (ctxOk_cons ok32 rfl c32 (ctxOk_cons ok33 rfl c33 (ctxOk_cons ok42 rfl c42 (ctxOk_cons ok69 rfl c69 (ctxOk_cons ok71 rfl c71 (ctxOk_cons ok88 rfl c88 GS_ok)))))))
end Go.Proofs.Ytogcijgklnfjjaa

