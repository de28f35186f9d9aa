/- A part of the proof: SealOpens, for every case of bulk at most 1,048,576: what the document seals, with one byte turned, opens as the document says; as a box, too. -/
import Derived.Test.YtiaddnmloonhgaaSealOpensUptoSaidT2
import Derived.Test.YtiaddnmloonhgaaRows
set_option linter.unusedVariables false
set_option linter.unusedSimpArgs false

/- What rime/seal.Block comes to. MADE BY PROGRAM (wip/tools/mkfn.py, EngGen.lean). -/
namespace Go.Proofs.Ytiaddnmloonhgaa
open Go Go.Eng
set_option maxRecDepth 100000
set_option linter.unusedVariables false

def f18_0_sh : Shp := { n := 100, lo := 3, slots := [(1, .one (.int Go.IntKind.u32)), (3, .one (.fix (Go.Eng.At.ptr 3 0 Go.Eng.Off.z 32))), (5, .one (.fix (Go.Eng.At.ptr 5 0 Go.Eng.Off.z 12))), (6, .one (.fix (Go.Eng.At.ptr 6 0 Go.Eng.Off.z 64))), (7, .one (.fix (Go.Eng.At.ptr 7 0 Go.Eng.Off.z 16))), (16, .one (.int Go.IntKind.i64))], items := [(3, .obj [.ints Go.IntKind.u8 32]), (5, .obj [.ints Go.IntKind.u8 12]), (6, .obj [.ints Go.IntKind.u8 64]), (7, .obj [.ints Go.IntKind.u32 16])] }
def f18_0_ex1 : Shp := { n := 100, lo := 3, slots := [(17, .one (.bool)), (1, .one (.int Go.IntKind.u32)), (3, .one (.fix (Go.Eng.At.ptr 3 0 Go.Eng.Off.z 32))), (5, .one (.fix (Go.Eng.At.ptr 5 0 Go.Eng.Off.z 12))), (6, .one (.fix (Go.Eng.At.ptr 6 0 Go.Eng.Off.z 64))), (7, .one (.fix (Go.Eng.At.ptr 7 0 Go.Eng.Off.z 16))), (16, .one (.int Go.IntKind.i64))], items := [(3, .obj [.ints Go.IntKind.u8 32]), (5, .obj [.ints Go.IntKind.u8 12]), (6, .obj [.ints Go.IntKind.u8 64]), (7, .obj [.ints Go.IntKind.u32 16])] }
def f18_0_st {R : Type} (N : Nat) (self : Int → Int → List Int → List Int → List Int → List Int → Option R) (k1 : Bool → Int → Int → List Int → List Int → List Int → List Int → Option R) (x1 : Int) (x2 : Int) (x3 : List Int) (x4 : List Int) (x5 : List Int) (x6 : List Int) : Option R :=
  bif Decidable.decide (x2 < 8) then
  let v0 : Int := Go.IntKind.i64.wrap (4 * x2);
  let v1 : Int := Go.IntKind.i64.wrap (v0 + 4);
  bif Go.Eng.hiOk (Option.some v1) 32 then
    bif Go.Eng.loOk (Option.some v0) (Go.Eng.hiInt (Option.some v1) 32) then
      bif (Go.Eng.sub x3 (Go.Eng.plusO Go.Eng.Off.z 1 (Option.some v0)) (Go.Eng.mulE (Go.Eng.subN (Go.Eng.hiNat (Option.some v1) 32) (Option.some v0)) 1)).length.ble 1048576 then
        let v2 : Int := Go.IntKind.i64.wrap (4 + x2);
        bif Decidable.decide (0 ≤ v2) && Decidable.decide (v2 < ↑16) then
          let v3 : Int := Go.IntKind.i64.wrap (x2 + 1);
          let v4 : Int := Go.IntKind.u32.wrap (Go.Proofs.Ytiaddnmloonhgaa.lowL (Go.Eng.sub x3 (Go.Eng.plusO Go.Eng.Off.z 1 (Option.some v0)) (Go.Eng.mulE (Go.Eng.subN (Go.Eng.hiNat (Option.some v1) 32) (Option.some v0)) 1)));
          let v5 : List Int := x6.set (Go.Eng.mulE v2.toNat 1) v4;
          self x1 v3 x3 x4 x5 v5
        else Option.none
      else Option.none
    else Option.none
  else Option.none
else k1 (Decidable.decide (x2 < 8)) x1 x2 x3 x4 x5 x6
def f18_0_lp {R : Type} (N : Nat) (k1 : Bool → Int → Int → List Int → List Int → List Int → List Int → Option R) : Nat → Int → Int → List Int → List Int → List Int → List Int → Option R
  | 0, _, _, _, _, _, _ => none
  | n + 1, x1, x2, x3, x4, x5, x6 => f18_0_st N (f18_0_lp N k1 n) k1 x1 x2 x3 x4 x5 x6
def f18_0_F (N : Nat) : (R : Type) → List Leaf → (X → AS → Option R) → Option R := fun _ ls K => match ls with
  | [.i x1, .i x2, .l x3, .l x4, .l x5, .l x6] => f18_0_lp N (fun y1 y2 y3 y4 y5 y6 y7 => K (Go.Eng.X.normal) (fill f18_0_ex1 [.b y1, .i y2, .i y3, .l y4, .l y5, .l y6, .l y7])) N x1 x2 x3 x4 x5 x6
  | _ => none
def f18_2_sh : Shp := { n := 100, lo := 3, slots := [(5, .one (.fix (Go.Eng.At.ptr 5 0 Go.Eng.Off.z 12))), (6, .one (.fix (Go.Eng.At.ptr 6 0 Go.Eng.Off.z 64))), (7, .one (.fix (Go.Eng.At.ptr 7 0 Go.Eng.Off.z 16))), (33, .one (.int Go.IntKind.i64))], items := [(5, .obj [.ints Go.IntKind.u8 12]), (6, .obj [.ints Go.IntKind.u8 64]), (7, .obj [.ints Go.IntKind.u32 16])] }
def f18_2_ex1 : Shp := { n := 100, lo := 3, slots := [(34, .one (.bool)), (5, .one (.fix (Go.Eng.At.ptr 5 0 Go.Eng.Off.z 12))), (6, .one (.fix (Go.Eng.At.ptr 6 0 Go.Eng.Off.z 64))), (7, .one (.fix (Go.Eng.At.ptr 7 0 Go.Eng.Off.z 16))), (33, .one (.int Go.IntKind.i64))], items := [(5, .obj [.ints Go.IntKind.u8 12]), (6, .obj [.ints Go.IntKind.u8 64]), (7, .obj [.ints Go.IntKind.u32 16])] }
def f18_2_st {R : Type} (N : Nat) (self : Int → List Int → List Int → List Int → Option R) (k1 : Bool → Int → List Int → List Int → List Int → Option R) (x1 : Int) (x2 : List Int) (x3 : List Int) (x4 : List Int) : Option R :=
  bif Decidable.decide (x1 < 3) then
  let v0 : Int := Go.IntKind.i64.wrap (4 * x1);
  let v1 : Int := Go.IntKind.i64.wrap (v0 + 4);
  bif Go.Eng.hiOk (Option.some v1) 12 then
    bif Go.Eng.loOk (Option.some v0) (Go.Eng.hiInt (Option.some v1) 12) then
      bif (Go.Eng.sub x2 (Go.Eng.plusO Go.Eng.Off.z 1 (Option.some v0)) (Go.Eng.mulE (Go.Eng.subN (Go.Eng.hiNat (Option.some v1) 12) (Option.some v0)) 1)).length.ble 1048576 then
        let v2 : Int := Go.IntKind.i64.wrap (13 + x1);
        bif Decidable.decide (0 ≤ v2) && Decidable.decide (v2 < ↑16) then
          let v3 : Int := Go.IntKind.i64.wrap (x1 + 1);
          let v4 : Int := Go.IntKind.u32.wrap (Go.Proofs.Ytiaddnmloonhgaa.lowL (Go.Eng.sub x2 (Go.Eng.plusO Go.Eng.Off.z 1 (Option.some v0)) (Go.Eng.mulE (Go.Eng.subN (Go.Eng.hiNat (Option.some v1) 12) (Option.some v0)) 1)));
          let v5 : List Int := x4.set (Go.Eng.mulE v2.toNat 1) v4;
          self v3 x2 x3 v5
        else Option.none
      else Option.none
    else Option.none
  else Option.none
else k1 (Decidable.decide (x1 < 3)) x1 x2 x3 x4
def f18_2_lp {R : Type} (N : Nat) (k1 : Bool → Int → List Int → List Int → List Int → Option R) : Nat → Int → List Int → List Int → List Int → Option R
  | 0, _, _, _, _ => none
  | n + 1, x1, x2, x3, x4 => f18_2_st N (f18_2_lp N k1 n) k1 x1 x2 x3 x4
def f18_2_F (N : Nat) : (R : Type) → List Leaf → (X → AS → Option R) → Option R := fun _ ls K => match ls with
  | [.i x1, .l x2, .l x3, .l x4] => f18_2_lp N (fun y1 y2 y3 y4 y5 => K (Go.Eng.X.normal) (fill f18_2_ex1 [.b y1, .i y2, .l y3, .l y4, .l y5])) N x1 x2 x3 x4
  | _ => none
def f18_6_sh : Shp := { n := 100, lo := 3, slots := [(6, .one (.fix (Go.Eng.At.ptr 6 0 Go.Eng.Off.z 64))), (7, .one (.fix (Go.Eng.At.ptr 7 0 Go.Eng.Off.z 16))), (10, .one (.fix (Go.Eng.At.ptr 10 0 Go.Eng.Off.z 16))), (49, .one (.int Go.IntKind.i64)), (51, .one (.int Go.IntKind.i64))], items := [(6, .obj [.ints Go.IntKind.u8 64]), (7, .obj [.ints Go.IntKind.u32 16]), (10, .obj [.ints Go.IntKind.u32 16])] }
def f18_6_ex1 : Shp := { n := 100, lo := 3, slots := [(52, .one (.bool)), (6, .one (.fix (Go.Eng.At.ptr 6 0 Go.Eng.Off.z 64))), (7, .one (.fix (Go.Eng.At.ptr 7 0 Go.Eng.Off.z 16))), (10, .one (.fix (Go.Eng.At.ptr 10 0 Go.Eng.Off.z 16))), (49, .one (.int Go.IntKind.i64)), (51, .one (.int Go.IntKind.i64))], items := [(6, .obj [.ints Go.IntKind.u8 64]), (7, .obj [.ints Go.IntKind.u32 16]), (10, .obj [.ints Go.IntKind.u32 16])] }
def f18_6_st {R : Type} (N : Nat) (self : Int → Int → List Int → List Int → List Int → Option R) (k1 : Bool → Int → Int → List Int → List Int → List Int → Option R) (x1 : Int) (x2 : Int) (x3 : List Int) (x4 : List Int) (x5 : List Int) : Option R :=
  bif Decidable.decide (x2 < 4) then
  let v0 : Int := Go.IntKind.i64.wrap (4 + x2);
  let v1 : Int := Go.IntKind.i64.wrap (8 + x2);
  let v2 : Int := Go.IntKind.i64.wrap (12 + x2);
  bif Go.Proofs.Ytiaddnmloonhgaa.in16 x2 && (Go.Proofs.Ytiaddnmloonhgaa.in16 v0 && (Go.Proofs.Ytiaddnmloonhgaa.in16 v1 && Go.Proofs.Ytiaddnmloonhgaa.in16 v2)) then
    let v3 : Int := Go.IntKind.i64.wrap (x2 + 1);
    self x1 v3 x3 x4 (Go.Proofs.Ytiaddnmloonhgaa.quarterL x5 x2.toNat v0.toNat v1.toNat v2.toNat)
  else Option.none
else k1 (Decidable.decide (x2 < 4)) x1 x2 x3 x4 x5
def f18_6_lp {R : Type} (N : Nat) (k1 : Bool → Int → Int → List Int → List Int → List Int → Option R) : Nat → Int → Int → List Int → List Int → List Int → Option R
  | 0, _, _, _, _, _ => none
  | n + 1, x1, x2, x3, x4, x5 => f18_6_st N (f18_6_lp N k1 n) k1 x1 x2 x3 x4 x5
def f18_6_F (N : Nat) : (R : Type) → List Leaf → (X → AS → Option R) → Option R := fun _ ls K => match ls with
  | [.i x1, .i x2, .l x3, .l x4, .l x5] => f18_6_lp N (fun y1 y2 y3 y4 y5 y6 => K (Go.Eng.X.normal) (fill f18_6_ex1 [.b y1, .i y2, .i y3, .l y4, .l y5, .l y6])) N x1 x2 x3 x4 x5
  | _ => none
def f18_8_sh : Shp := { n := 100, lo := 3, slots := [(6, .one (.fix (Go.Eng.At.ptr 6 0 Go.Eng.Off.z 64))), (7, .one (.fix (Go.Eng.At.ptr 7 0 Go.Eng.Off.z 16))), (10, .one (.fix (Go.Eng.At.ptr 10 0 Go.Eng.Off.z 16))), (49, .one (.int Go.IntKind.i64)), (63, .one (.int Go.IntKind.i64))], items := [(6, .obj [.ints Go.IntKind.u8 64]), (7, .obj [.ints Go.IntKind.u32 16]), (10, .obj [.ints Go.IntKind.u32 16])] }
def f18_8_ex1 : Shp := { n := 100, lo := 3, slots := [(64, .one (.bool)), (6, .one (.fix (Go.Eng.At.ptr 6 0 Go.Eng.Off.z 64))), (7, .one (.fix (Go.Eng.At.ptr 7 0 Go.Eng.Off.z 16))), (10, .one (.fix (Go.Eng.At.ptr 10 0 Go.Eng.Off.z 16))), (49, .one (.int Go.IntKind.i64)), (63, .one (.int Go.IntKind.i64))], items := [(6, .obj [.ints Go.IntKind.u8 64]), (7, .obj [.ints Go.IntKind.u32 16]), (10, .obj [.ints Go.IntKind.u32 16])] }
def f18_8_st {R : Type} (N : Nat) (self : Int → Int → List Int → List Int → List Int → Option R) (k1 : Bool → Int → Int → List Int → List Int → List Int → Option R) (x1 : Int) (x2 : Int) (x3 : List Int) (x4 : List Int) (x5 : List Int) : Option R :=
  bif Decidable.decide (x2 < 4) then
  let v0 : Int := Go.IntKind.i64.wrap (x2 + 1);
  let v1 : Int := Go.IntKind.i64.wrap (4 + v0.tmod 4);
  let v2 : Int := Go.IntKind.i64.wrap (x2 + 2);
  let v3 : Int := Go.IntKind.i64.wrap (8 + v2.tmod 4);
  let v4 : Int := Go.IntKind.i64.wrap (x2 + 3);
  let v5 : Int := Go.IntKind.i64.wrap (12 + v4.tmod 4);
  bif Go.Proofs.Ytiaddnmloonhgaa.in16 x2 && (Go.Proofs.Ytiaddnmloonhgaa.in16 v1 && (Go.Proofs.Ytiaddnmloonhgaa.in16 v3 && Go.Proofs.Ytiaddnmloonhgaa.in16 v5)) then self x1 v0 x3 x4 (Go.Proofs.Ytiaddnmloonhgaa.quarterL x5 x2.toNat v1.toNat v3.toNat v5.toNat) else Option.none
else k1 (Decidable.decide (x2 < 4)) x1 x2 x3 x4 x5
def f18_8_lp {R : Type} (N : Nat) (k1 : Bool → Int → Int → List Int → List Int → List Int → Option R) : Nat → Int → Int → List Int → List Int → List Int → Option R
  | 0, _, _, _, _, _ => none
  | n + 1, x1, x2, x3, x4, x5 => f18_8_st N (f18_8_lp N k1 n) k1 x1 x2 x3 x4 x5
def f18_8_F (N : Nat) : (R : Type) → List Leaf → (X → AS → Option R) → Option R := fun _ ls K => match ls with
  | [.i x1, .i x2, .l x3, .l x4, .l x5] => f18_8_lp N (fun y1 y2 y3 y4 y5 y6 => K (Go.Eng.X.normal) (fill f18_8_ex1 [.b y1, .i y2, .i y3, .l y4, .l y5, .l y6])) N x1 x2 x3 x4 x5
  | _ => none
def f18_4_sh : Shp := { n := 100, lo := 3, slots := [(6, .one (.fix (Go.Eng.At.ptr 6 0 Go.Eng.Off.z 64))), (7, .one (.fix (Go.Eng.At.ptr 7 0 Go.Eng.Off.z 16))), (10, .one (.fix (Go.Eng.At.ptr 10 0 Go.Eng.Off.z 16))), (49, .one (.int Go.IntKind.i64))], items := [(6, .obj [.ints Go.IntKind.u8 64]), (7, .obj [.ints Go.IntKind.u32 16]), (10, .obj [.ints Go.IntKind.u32 16])] }
def f18_4_ex1 : Shp := { n := 100, lo := 3, slots := [(50, .one (.bool)), (6, .one (.fix (Go.Eng.At.ptr 6 0 Go.Eng.Off.z 64))), (7, .one (.fix (Go.Eng.At.ptr 7 0 Go.Eng.Off.z 16))), (10, .one (.fix (Go.Eng.At.ptr 10 0 Go.Eng.Off.z 16))), (49, .one (.int Go.IntKind.i64))], items := [(6, .obj [.ints Go.IntKind.u8 64]), (7, .obj [.ints Go.IntKind.u32 16]), (10, .obj [.ints Go.IntKind.u32 16])] }
def f18_4_st {R : Type} (N : Nat) (self : Int → List Int → List Int → List Int → Option R) (k1 : Bool → Int → List Int → List Int → List Int → Option R) (x1 : Int) (x2 : List Int) (x3 : List Int) (x4 : List Int) : Option R :=
  bif Decidable.decide (x1 < 10) then
  f18_6_lp N
    (fun w0_1 w0_2 w0_3 w0_4 w0_5 w0_6 =>
      f18_8_lp N
        (fun w1_1 w1_2 w1_3 w1_4 w1_5 w1_6 =>
          let v2 : Int := Go.IntKind.i64.wrap (w1_2 + 1);
          self v2 w1_4 w1_5 w1_6)
        N w0_2 0 w0_4 w0_5 w0_6)
    N x1 0 x2 x3 x4
else k1 (Decidable.decide (x1 < 10)) x1 x2 x3 x4
def f18_4_lp {R : Type} (N : Nat) (k1 : Bool → Int → List Int → List Int → List Int → Option R) : Nat → Int → List Int → List Int → List Int → Option R
  | 0, _, _, _, _ => none
  | n + 1, x1, x2, x3, x4 => f18_4_st N (f18_4_lp N k1 n) k1 x1 x2 x3 x4
def f18_4_F (N : Nat) : (R : Type) → List Leaf → (X → AS → Option R) → Option R := fun _ ls K => match ls with
  | [.i x1, .l x2, .l x3, .l x4] => f18_4_lp N (fun y1 y2 y3 y4 y5 => K (Go.Eng.X.normal) (fill f18_4_ex1 [.b y1, .i y2, .l y3, .l y4, .l y5])) N x1 x2 x3 x4
  | _ => none
def f18_10_sh : Shp := { n := 100, lo := 3, slots := [(6, .one (.fix (Go.Eng.At.ptr 6 0 Go.Eng.Off.z 64))), (7, .one (.fix (Go.Eng.At.ptr 7 0 Go.Eng.Off.z 16))), (10, .one (.fix (Go.Eng.At.ptr 10 0 Go.Eng.Off.z 16))), (13, .one (.fix (Go.Eng.At.ptr 13 0 Go.Eng.Off.z 64))), (82, .one (.int Go.IntKind.i64))], items := [(6, .obj [.ints Go.IntKind.u8 64]), (7, .obj [.ints Go.IntKind.u32 16]), (10, .obj [.ints Go.IntKind.u32 16]), (13, .obj [.ints Go.IntKind.u8 64])] }
def f18_10_ex1 : Shp := { n := 100, lo := 3, slots := [(83, .one (.bool)), (6, .one (.fix (Go.Eng.At.ptr 6 0 Go.Eng.Off.z 64))), (7, .one (.fix (Go.Eng.At.ptr 7 0 Go.Eng.Off.z 16))), (10, .one (.fix (Go.Eng.At.ptr 10 0 Go.Eng.Off.z 16))), (13, .one (.fix (Go.Eng.At.ptr 13 0 Go.Eng.Off.z 64))), (82, .one (.int Go.IntKind.i64))], items := [(6, .obj [.ints Go.IntKind.u8 64]), (7, .obj [.ints Go.IntKind.u32 16]), (10, .obj [.ints Go.IntKind.u32 16]), (13, .obj [.ints Go.IntKind.u8 64])] }
def f18_10_st {R : Type} (N : Nat) (self : Int → List Int → List Int → List Int → List Int → Option R) (k1 : Bool → Int → List Int → List Int → List Int → List Int → Option R) (x1 : Int) (x2 : List Int) (x3 : List Int) (x4 : List Int) (x5 : List Int) : Option R :=
  bif Decidable.decide (x1 < 16) then
  let v0 : Int := Go.IntKind.i64.wrap (4 * x1);
  bif Go.Eng.loOk (Option.some v0) (Go.Eng.hiInt Option.none 64) then
    bif Decidable.decide (0 ≤ x1) && Decidable.decide (x1 < ↑16) then
      bif Decidable.decide (0 ≤ x1) && Decidable.decide (x1 < ↑16) then
        let v1 : Int := Go.IntKind.i64.wrap (x1 + 1);
        let v2 : Int := Go.IntKind.u32.wrap (x4.getD (Go.Eng.mulE x1.toNat 1) 0 + x3.getD (Go.Eng.mulE x1.toNat 1) 0);
        let v3 : Int := Go.IntKind.u64.wrap v2;
        let v4 : List Int := Go.Eng.splice x5 (Go.Eng.plusO Go.Eng.Off.z 1 (Option.some v0)) (List.take (Go.Eng.mulE (Min.min (Go.Eng.rowLen 1 (Go.Proofs.Ytiaddnmloonhgaa.bytesL v3 (Int.toNat 4))) (Go.Eng.subN (Go.Eng.hiNat Option.none 64) (Option.some v0))) 1) (Go.Proofs.Ytiaddnmloonhgaa.bytesL v3 (Int.toNat 4)));
        self v1 x2 x3 x4 v4
      else Option.none
    else Option.none
  else Option.none
else k1 (Decidable.decide (x1 < 16)) x1 x2 x3 x4 x5
def f18_10_lp {R : Type} (N : Nat) (k1 : Bool → Int → List Int → List Int → List Int → List Int → Option R) : Nat → Int → List Int → List Int → List Int → List Int → Option R
  | 0, _, _, _, _, _ => none
  | n + 1, x1, x2, x3, x4, x5 => f18_10_st N (f18_10_lp N k1 n) k1 x1 x2 x3 x4 x5
def f18_10_F (N : Nat) : (R : Type) → List Leaf → (X → AS → Option R) → Option R := fun _ ls K => match ls with
  | [.i x1, .l x2, .l x3, .l x4, .l x5] => f18_10_lp N (fun y1 y2 y3 y4 y5 y6 => K (Go.Eng.X.normal) (fill f18_10_ex1 [.b y1, .i y2, .l y3, .l y4, .l y5, .l y6])) N x1 x2 x3 x4 x5
  | _ => none
def f18_raw {R : Type} (N : Nat) (key : List Int) (ctr : Int) (nonce : List Int) (k : List DV → Option R) : Option R :=
 let v0 : List Int := (List.replicate 16 0).set 0 1634760805;
let v1 : List Int := v0.set 1 857760878;
let v2 : List Int := v1.set 2 2036477234;
let v3 : List Int := v2.set 3 1797285236;
f18_0_lp N
 (fun w4_1 w4_2 w4_3 w4_4 w4_5 w4_6 w4_7 =>
 let v5 : List Int := w4_7.set (Go.Eng.mulE (Int.toNat 12) 1) w4_2;
 f18_2_lp N (fun w6_1 w6_2 w6_3 w6_4 w6_5 => f18_4_lp N (fun w7_1 w7_2 w7_3 w7_4 w7_5 => f18_10_lp N (fun w8_1 w8_2 w8_3 w8_4 w8_5 w8_6 => k [Go.Eng.DV.v (Go.Eng.SV.one (Go.Eng.At.ints Go.IntKind.u8 64 w8_6))]) N 0 w7_3 w7_4 w7_5 (List.replicate 64 0)) N 0 w6_4 w6_5 w6_5) N 0 w4_5 w4_6 v5)
 N ctr 0 key nonce (List.replicate 64 0) v3


noncomputable def E18 (N : Nat) : Env := { Θ := Th, Γ := G18, K := K18, ν := N18, fuel := 0, lp := [(0, mkL N18_0 f18_0_sh (f18_0_F N)), (2, mkL N18_2 f18_2_sh (f18_2_F N)), (4, mkL N18_4 f18_4_sh (f18_4_F N)), (6, mkL N18_6 f18_6_sh (f18_6_F N)), (8, mkL N18_8 f18_8_sh (f18_8_F N)), (10, mkL N18_10 f18_10_sh (f18_10_F N))] }

theorem f18_0_st_eq {R : Type} (N : Nat) (K : X → AS → Option R) (n : Nat) (x1 : Int) (x2 : Int) (x3 : List Int) (x4 : List Int) (x5 : List Int) (x6 : List Int) : roundsOf (E18 N) N18_0 0 B18_0 K (n + 1) (fill f18_0_sh [.i x1, .i x2, .l x3, .l x4, .l x5, .l x6]) = f18_0_st N (fun x1 x2 x3 x4 x5 x6 => roundsOf (E18 N) N18_0 0 B18_0 K n (fill f18_0_sh [.i x1, .i x2, .l x3, .l x4, .l x5, .l x6])) (fun y1 y2 y3 y4 y5 y6 y7 => K (Go.Eng.X.normal) (fill f18_0_ex1 [.b y1, .i y2, .i y3, .l y4, .l y5, .l y6, .l y7])) x1 x2 x3 x4 x5 x6 := by kernel_rfl
theorem f18_0_lp_eq {R : Type} (N : Nat) (K : X → AS → Option R) : ∀ (n : Nat) (x1 : Int) (x2 : Int) (x3 : List Int) (x4 : List Int) (x5 : List Int) (x6 : List Int), roundsOf (E18 N) N18_0 0 B18_0 K n (fill f18_0_sh [.i x1, .i x2, .l x3, .l x4, .l x5, .l x6]) = f18_0_lp N (fun y1 y2 y3 y4 y5 y6 y7 => K (Go.Eng.X.normal) (fill f18_0_ex1 [.b y1, .i y2, .i y3, .l y4, .l y5, .l y6, .l y7])) n x1 x2 x3 x4 x5 x6
  | 0, _, _, _, _, _, _ => rfl
  | n + 1, x1, x2, x3, x4, x5, x6 => by
    rw [f18_0_st_eq, f18_0_lp, show (fun x1 x2 x3 x4 x5 x6 => roundsOf (E18 N) N18_0 0 B18_0 K n (fill f18_0_sh [.i x1, .i x2, .l x3, .l x4, .l x5, .l x6])) = f18_0_lp N (fun y1 y2 y3 y4 y5 y6 y7 => K (Go.Eng.X.normal) (fill f18_0_ex1 [.b y1, .i y2, .i y3, .l y4, .l y5, .l y6, .l y7])) n from by funext x1 x2 x3 x4 x5 x6; exact f18_0_lp_eq N K n x1 x2 x3 x4 x5 x6]
theorem f18_0_ok (N : Nat) (hlp : LoopsOk Try.prog (E18 N).lp B18_0) (hΓ : CtxOk Try.prog (E18 N).Γ) : LoopOk Try.prog (mkL N18_0 f18_0_sh (f18_0_F N)) 0 B18_0 := by
  refine loopOk_of (E := E18 N) thOk hΓ mixed hlp ?_
  intro R ls K r h
  unfold f18_0_F at h
  split at h
  · exact ⟨N, by rw [f18_0_lp_eq]; exact h⟩
  · cases h
theorem f18_2_st_eq {R : Type} (N : Nat) (K : X → AS → Option R) (n : Nat) (x1 : Int) (x2 : List Int) (x3 : List Int) (x4 : List Int) : roundsOf (E18 N) N18_2 2 B18_2 K (n + 1) (fill f18_2_sh [.i x1, .l x2, .l x3, .l x4]) = f18_2_st N (fun x1 x2 x3 x4 => roundsOf (E18 N) N18_2 2 B18_2 K n (fill f18_2_sh [.i x1, .l x2, .l x3, .l x4])) (fun y1 y2 y3 y4 y5 => K (Go.Eng.X.normal) (fill f18_2_ex1 [.b y1, .i y2, .l y3, .l y4, .l y5])) x1 x2 x3 x4 := by kernel_rfl
theorem f18_2_lp_eq {R : Type} (N : Nat) (K : X → AS → Option R) : ∀ (n : Nat) (x1 : Int) (x2 : List Int) (x3 : List Int) (x4 : List Int), roundsOf (E18 N) N18_2 2 B18_2 K n (fill f18_2_sh [.i x1, .l x2, .l x3, .l x4]) = f18_2_lp N (fun y1 y2 y3 y4 y5 => K (Go.Eng.X.normal) (fill f18_2_ex1 [.b y1, .i y2, .l y3, .l y4, .l y5])) n x1 x2 x3 x4
  | 0, _, _, _, _ => rfl
  | n + 1, x1, x2, x3, x4 => by
    rw [f18_2_st_eq, f18_2_lp, show (fun x1 x2 x3 x4 => roundsOf (E18 N) N18_2 2 B18_2 K n (fill f18_2_sh [.i x1, .l x2, .l x3, .l x4])) = f18_2_lp N (fun y1 y2 y3 y4 y5 => K (Go.Eng.X.normal) (fill f18_2_ex1 [.b y1, .i y2, .l y3, .l y4, .l y5])) n from by funext x1 x2 x3 x4; exact f18_2_lp_eq N K n x1 x2 x3 x4]
theorem f18_2_ok (N : Nat) (hlp : LoopsOk Try.prog (E18 N).lp B18_2) (hΓ : CtxOk Try.prog (E18 N).Γ) : LoopOk Try.prog (mkL N18_2 f18_2_sh (f18_2_F N)) 2 B18_2 := by
  refine loopOk_of (E := E18 N) thOk hΓ mixed hlp ?_
  intro R ls K r h
  unfold f18_2_F at h
  split at h
  · exact ⟨N, by rw [f18_2_lp_eq]; exact h⟩
  · cases h
theorem f18_6_st_eq {R : Type} (N : Nat) (K : X → AS → Option R) (n : Nat) (x1 : Int) (x2 : Int) (x3 : List Int) (x4 : List Int) (x5 : List Int) : roundsOf (E18 N) N18_6 6 B18_6 K (n + 1) (fill f18_6_sh [.i x1, .i x2, .l x3, .l x4, .l x5]) = f18_6_st N (fun x1 x2 x3 x4 x5 => roundsOf (E18 N) N18_6 6 B18_6 K n (fill f18_6_sh [.i x1, .i x2, .l x3, .l x4, .l x5])) (fun y1 y2 y3 y4 y5 y6 => K (Go.Eng.X.normal) (fill f18_6_ex1 [.b y1, .i y2, .i y3, .l y4, .l y5, .l y6])) x1 x2 x3 x4 x5 := by kernel_rfl
theorem f18_6_lp_eq {R : Type} (N : Nat) (K : X → AS → Option R) : ∀ (n : Nat) (x1 : Int) (x2 : Int) (x3 : List Int) (x4 : List Int) (x5 : List Int), roundsOf (E18 N) N18_6 6 B18_6 K n (fill f18_6_sh [.i x1, .i x2, .l x3, .l x4, .l x5]) = f18_6_lp N (fun y1 y2 y3 y4 y5 y6 => K (Go.Eng.X.normal) (fill f18_6_ex1 [.b y1, .i y2, .i y3, .l y4, .l y5, .l y6])) n x1 x2 x3 x4 x5
  | 0, _, _, _, _, _ => rfl
  | n + 1, x1, x2, x3, x4, x5 => by
    rw [f18_6_st_eq, f18_6_lp, show (fun x1 x2 x3 x4 x5 => roundsOf (E18 N) N18_6 6 B18_6 K n (fill f18_6_sh [.i x1, .i x2, .l x3, .l x4, .l x5])) = f18_6_lp N (fun y1 y2 y3 y4 y5 y6 => K (Go.Eng.X.normal) (fill f18_6_ex1 [.b y1, .i y2, .i y3, .l y4, .l y5, .l y6])) n from by funext x1 x2 x3 x4 x5; exact f18_6_lp_eq N K n x1 x2 x3 x4 x5]
theorem f18_6_ok (N : Nat) (hlp : LoopsOk Try.prog (E18 N).lp B18_6) (hΓ : CtxOk Try.prog (E18 N).Γ) : LoopOk Try.prog (mkL N18_6 f18_6_sh (f18_6_F N)) 6 B18_6 := by
  refine loopOk_of (E := E18 N) thOk hΓ mixed hlp ?_
  intro R ls K r h
  unfold f18_6_F at h
  split at h
  · exact ⟨N, by rw [f18_6_lp_eq]; exact h⟩
  · cases h
theorem f18_8_st_eq {R : Type} (N : Nat) (K : X → AS → Option R) (n : Nat) (x1 : Int) (x2 : Int) (x3 : List Int) (x4 : List Int) (x5 : List Int) : roundsOf (E18 N) N18_8 8 B18_8 K (n + 1) (fill f18_8_sh [.i x1, .i x2, .l x3, .l x4, .l x5]) = f18_8_st N (fun x1 x2 x3 x4 x5 => roundsOf (E18 N) N18_8 8 B18_8 K n (fill f18_8_sh [.i x1, .i x2, .l x3, .l x4, .l x5])) (fun y1 y2 y3 y4 y5 y6 => K (Go.Eng.X.normal) (fill f18_8_ex1 [.b y1, .i y2, .i y3, .l y4, .l y5, .l y6])) x1 x2 x3 x4 x5 := by kernel_rfl
theorem f18_8_lp_eq {R : Type} (N : Nat) (K : X → AS → Option R) : ∀ (n : Nat) (x1 : Int) (x2 : Int) (x3 : List Int) (x4 : List Int) (x5 : List Int), roundsOf (E18 N) N18_8 8 B18_8 K n (fill f18_8_sh [.i x1, .i x2, .l x3, .l x4, .l x5]) = f18_8_lp N (fun y1 y2 y3 y4 y5 y6 => K (Go.Eng.X.normal) (fill f18_8_ex1 [.b y1, .i y2, .i y3, .l y4, .l y5, .l y6])) n x1 x2 x3 x4 x5
  | 0, _, _, _, _, _ => rfl
  | n + 1, x1, x2, x3, x4, x5 => by
    rw [f18_8_st_eq, f18_8_lp, show (fun x1 x2 x3 x4 x5 => roundsOf (E18 N) N18_8 8 B18_8 K n (fill f18_8_sh [.i x1, .i x2, .l x3, .l x4, .l x5])) = f18_8_lp N (fun y1 y2 y3 y4 y5 y6 => K (Go.Eng.X.normal) (fill f18_8_ex1 [.b y1, .i y2, .i y3, .l y4, .l y5, .l y6])) n from by funext x1 x2 x3 x4 x5; exact f18_8_lp_eq N K n x1 x2 x3 x4 x5]
theorem f18_8_ok (N : Nat) (hlp : LoopsOk Try.prog (E18 N).lp B18_8) (hΓ : CtxOk Try.prog (E18 N).Γ) : LoopOk Try.prog (mkL N18_8 f18_8_sh (f18_8_F N)) 8 B18_8 := by
  refine loopOk_of (E := E18 N) thOk hΓ mixed hlp ?_
  intro R ls K r h
  unfold f18_8_F at h
  split at h
  · exact ⟨N, by rw [f18_8_lp_eq]; exact h⟩
  · cases h
theorem f18_4_st_eq {R : Type} (N : Nat) (K : X → AS → Option R) (n : Nat) (x1 : Int) (x2 : List Int) (x3 : List Int) (x4 : List Int) : roundsOf (E18 N) N18_4 4 B18_4 K (n + 1) (fill f18_4_sh [.i x1, .l x2, .l x3, .l x4]) = f18_4_st N (fun x1 x2 x3 x4 => roundsOf (E18 N) N18_4 4 B18_4 K n (fill f18_4_sh [.i x1, .l x2, .l x3, .l x4])) (fun y1 y2 y3 y4 y5 => K (Go.Eng.X.normal) (fill f18_4_ex1 [.b y1, .i y2, .l y3, .l y4, .l y5])) x1 x2 x3 x4 := by kernel_rfl
theorem f18_4_lp_eq {R : Type} (N : Nat) (K : X → AS → Option R) : ∀ (n : Nat) (x1 : Int) (x2 : List Int) (x3 : List Int) (x4 : List Int), roundsOf (E18 N) N18_4 4 B18_4 K n (fill f18_4_sh [.i x1, .l x2, .l x3, .l x4]) = f18_4_lp N (fun y1 y2 y3 y4 y5 => K (Go.Eng.X.normal) (fill f18_4_ex1 [.b y1, .i y2, .l y3, .l y4, .l y5])) n x1 x2 x3 x4
  | 0, _, _, _, _ => rfl
  | n + 1, x1, x2, x3, x4 => by
    rw [f18_4_st_eq, f18_4_lp, show (fun x1 x2 x3 x4 => roundsOf (E18 N) N18_4 4 B18_4 K n (fill f18_4_sh [.i x1, .l x2, .l x3, .l x4])) = f18_4_lp N (fun y1 y2 y3 y4 y5 => K (Go.Eng.X.normal) (fill f18_4_ex1 [.b y1, .i y2, .l y3, .l y4, .l y5])) n from by funext x1 x2 x3 x4; exact f18_4_lp_eq N K n x1 x2 x3 x4]
theorem f18_4_ok (N : Nat) (hlp : LoopsOk Try.prog (E18 N).lp B18_4) (hΓ : CtxOk Try.prog (E18 N).Γ) : LoopOk Try.prog (mkL N18_4 f18_4_sh (f18_4_F N)) 4 B18_4 := by
  refine loopOk_of (E := E18 N) thOk hΓ mixed hlp ?_
  intro R ls K r h
  unfold f18_4_F at h
  split at h
  · exact ⟨N, by rw [f18_4_lp_eq]; exact h⟩
  · cases h
theorem f18_10_st_eq {R : Type} (N : Nat) (K : X → AS → Option R) (n : Nat) (x1 : Int) (x2 : List Int) (x3 : List Int) (x4 : List Int) (x5 : List Int) : roundsOf (E18 N) N18_10 10 B18_10 K (n + 1) (fill f18_10_sh [.i x1, .l x2, .l x3, .l x4, .l x5]) = f18_10_st N (fun x1 x2 x3 x4 x5 => roundsOf (E18 N) N18_10 10 B18_10 K n (fill f18_10_sh [.i x1, .l x2, .l x3, .l x4, .l x5])) (fun y1 y2 y3 y4 y5 y6 => K (Go.Eng.X.normal) (fill f18_10_ex1 [.b y1, .i y2, .l y3, .l y4, .l y5, .l y6])) x1 x2 x3 x4 x5 := by kernel_rfl
theorem f18_10_lp_eq {R : Type} (N : Nat) (K : X → AS → Option R) : ∀ (n : Nat) (x1 : Int) (x2 : List Int) (x3 : List Int) (x4 : List Int) (x5 : List Int), roundsOf (E18 N) N18_10 10 B18_10 K n (fill f18_10_sh [.i x1, .l x2, .l x3, .l x4, .l x5]) = f18_10_lp N (fun y1 y2 y3 y4 y5 y6 => K (Go.Eng.X.normal) (fill f18_10_ex1 [.b y1, .i y2, .l y3, .l y4, .l y5, .l y6])) n x1 x2 x3 x4 x5
  | 0, _, _, _, _, _ => rfl
  | n + 1, x1, x2, x3, x4, x5 => by
    rw [f18_10_st_eq, f18_10_lp, show (fun x1 x2 x3 x4 x5 => roundsOf (E18 N) N18_10 10 B18_10 K n (fill f18_10_sh [.i x1, .l x2, .l x3, .l x4, .l x5])) = f18_10_lp N (fun y1 y2 y3 y4 y5 y6 => K (Go.Eng.X.normal) (fill f18_10_ex1 [.b y1, .i y2, .l y3, .l y4, .l y5, .l y6])) n from by funext x1 x2 x3 x4 x5; exact f18_10_lp_eq N K n x1 x2 x3 x4 x5]
theorem f18_10_ok (N : Nat) (hlp : LoopsOk Try.prog (E18 N).lp B18_10) (hΓ : CtxOk Try.prog (E18 N).Γ) : LoopOk Try.prog (mkL N18_10 f18_10_sh (f18_10_F N)) 10 B18_10 := by
  refine loopOk_of (E := E18 N) thOk hΓ mixed hlp ?_
  intro R ls K r h
  unfold f18_10_F at h
  split at h
  · exact ⟨N, by rw [f18_10_lp_eq]; exact h⟩
  · cases h

theorem lok18_10 (N : Nat) (hΓ : CtxOk Try.prog G18) : LoopOk Try.prog (mkL N18_10 f18_10_sh (f18_10_F N)) 10 B18_10 := f18_10_ok N (loopsOk_of (l := []) (by kernel_rfl) trivial) hΓ
theorem lok18_8 (N : Nat) (hΓ : CtxOk Try.prog G18) : LoopOk Try.prog (mkL N18_8 f18_8_sh (f18_8_F N)) 8 B18_8 := f18_8_ok N (loopsOk_of (l := []) (by kernel_rfl) trivial) hΓ
theorem lok18_6 (N : Nat) (hΓ : CtxOk Try.prog G18) : LoopOk Try.prog (mkL N18_6 f18_6_sh (f18_6_F N)) 6 B18_6 := f18_6_ok N (loopsOk_of (l := []) (by kernel_rfl) trivial) hΓ
theorem lok18_4 (N : Nat) (hΓ : CtxOk Try.prog G18) : LoopOk Try.prog (mkL N18_4 f18_4_sh (f18_4_F N)) 4 B18_4 := f18_4_ok N (loopsOk_of (l := [(6, B18_6), (8, B18_8)]) (by kernel_rfl) (allOk_cons (L := mkL N18_6 f18_6_sh (f18_6_F N)) rfl (lok18_6 N hΓ) (allOk_cons (L := mkL N18_8 f18_8_sh (f18_8_F N)) rfl (lok18_8 N hΓ) trivial))) hΓ
theorem lok18_2 (N : Nat) (hΓ : CtxOk Try.prog G18) : LoopOk Try.prog (mkL N18_2 f18_2_sh (f18_2_F N)) 2 B18_2 := f18_2_ok N (loopsOk_of (l := []) (by kernel_rfl) trivial) hΓ
theorem lok18_0 (N : Nat) (hΓ : CtxOk Try.prog G18) : LoopOk Try.prog (mkL N18_0 f18_0_sh (f18_0_F N)) 0 B18_0 := f18_0_ok N (loopsOk_of (l := []) (by kernel_rfl) trivial) hΓ
theorem f18_contract (N : Nat) (hΓ : CtxOk Try.prog G18) : Contract Try.prog 18 { sig := S18, impl := fun _ ds k => call (E18 N) S18 100 B18 R18 ds k } :=
  call_contract (E := E18 N) thOk hΓ mixed ok18.look ok18.body ok18.n ok18.rv ok18.name rfl (by decide) (loopsOk_of (l := [(0, B18_0), (2, B18_2), (4, B18_4), (6, B18_6), (8, B18_8), (10, B18_10)]) (by kernel_rfl) (allOk_cons (L := mkL N18_0 f18_0_sh (f18_0_F N)) rfl (lok18_0 N hΓ) (allOk_cons (L := mkL N18_2 f18_2_sh (f18_2_F N)) rfl (lok18_2 N hΓ) (allOk_cons (L := mkL N18_4 f18_4_sh (f18_4_F N)) rfl (lok18_4 N hΓ) (allOk_cons (L := mkL N18_6 f18_6_sh (f18_6_F N)) rfl (lok18_6 N hΓ) (allOk_cons (L := mkL N18_8 f18_8_sh (f18_8_F N)) rfl (lok18_8 N hΓ) (allOk_cons (L := mkL N18_10 f18_10_sh (f18_10_F N)) rfl (lok18_10 N hΓ) trivial)))))))
theorem f18_raw_eq {R : Type} (N : Nat) (key : List Int) (ctr : Int) (nonce : List Int) (k : List DV → Option R) : call (E18 N) S18 100 B18 R18 [.v (.one (.ints .u8 32 key)), .v (.one (.int .u32 ctr)), .v (.one (.ints .u8 12 nonce))] k = f18_raw N key ctr nonce k := by kernel_rfl
end Go.Proofs.Ytiaddnmloonhgaa

/- The block. -/
namespace Go.Proofs.Ytiaddnmloonhgaa
open Go Go.Eng
set_option maxRecDepth 100000

theorem wrapI {x : Int} {n : Nat} (h : x = (n : Int)) (hn : n < 2 ^ 62) : IntKind.i64.wrap x = (n : Int) := by rw [h]; exact wrap64_nat hn

theorem hiOk_nat {n h : Nat} (hn : n ≤ h) : hiOk (some (n : Int)) h = true := by simp [hiOk]; omega
theorem loOk_nat {n : Nat} {h : Int} (hn : (n : Int) ≤ h) : loOk (some (n : Int)) h = true := by simp [loOk]; omega

theorem sub_nat (xs : List Int) (a b h : Nat) : Go.Eng.sub xs (plusO .z 1 (some (a : Int))) (mulE (subN (hiNat (some (b : Int)) h) (some (a : Int))) 1) = (xs.drop a).take (b - a) := by
  simp [Go.Eng.sub, plusO, Off.plus, mulE, subN, hiNat]

theorem ble_take (xs : List Int) (a n : Nat) (hn : n ≤ 1048576) : ((xs.drop a).take n).length.ble 1048576 = true := by
  rw [Nat.ble_eq]; exact Nat.le_trans (List.length_take_le _ _) hn

theorem key_step {R : Type} (N : Nat) (self : Int → Int → List Int → List Int → List Int → List Int → Option R) (k1 : Bool → Int → Int → List Int → List Int → List Int → List Int → Option R) (i : Nat) (hi : i < 8) (x1 : Int) (x3 x4 x5 x6 : List Int) :
    f18_0_st N self k1 x1 (i : Int) x3 x4 x5 x6 = self x1 ((i + 1 : Nat) : Int) x3 x4 x5 (x6.set (4 + i) (IntKind.u32.wrap (lowL ((x3.drop (4 * i)).take 4)))) := by
  unfold f18_0_st
  have h0 : decide ((i : Int) < 8) = true := by simp; omega
  have h1 : IntKind.i64.wrap (4 * (i : Int)) = ((4 * i : Nat) : Int) := wrapI (by omega) (by omega)
  have h2 : IntKind.i64.wrap (((4 * i : Nat) : Int) + 4) = ((4 * i + 4 : Nat) : Int) := wrapI (by omega) (by omega)
  have h3 : IntKind.i64.wrap (4 + (i : Int)) = ((4 + i : Nat) : Int) := wrapI (by omega) (by omega)
  have h4 : IntKind.i64.wrap ((i : Int) + 1) = ((i + 1 : Nat) : Int) := wrapI (by omega) (by omega)
  have h5 : (decide ((0 : Int) ≤ ((4 + i : Nat) : Int)) && decide (((4 + i : Nat) : Int) < 16)) = true := by simp; omega
  have h6 : 4 * i + 4 - 4 * i = 4 := by omega
  simp only [h0, h1, h2, h3, h4]
  rw [hiOk_nat (by omega), loOk_nat (by simp [hiInt]; omega), sub_nat, h6, ble_take _ _ _ (by omega), h5]
  simp only [cond_true, mulE_one, Int.toNat_natCast]

def keyGo (key : List Int) : Nat → Nat → List Int → List Int
  | 0, _, s => s
  | m + 1, i, s => keyGo key m (i + 1) (s.set (4 + i) (IntKind.u32.wrap (lowL ((key.drop (4 * i)).take 4))))

theorem key_loop {R : Type} {N : Nat} (k1 : Bool → Int → Int → List Int → List Int → List Int → List Int → Option R) (x1 : Int) (x3 x4 x5 : List Int) :
    ∀ (m i : Nat) (s : List Int), i + m = 8 → ∀ fuel, m < fuel → f18_0_lp N k1 fuel x1 (i : Int) x3 x4 x5 s = k1 false x1 8 x3 x4 x5 (keyGo x3 m i s) := by
  intro m
  induction m with
  | zero =>
    intro i n h fuel hf
    obtain ⟨f, rfl⟩ : ∃ f, fuel = f + 1 := ⟨fuel - 1, by omega⟩
    have : i = 8 := by omega
    subst this
    rfl
  | succ m ih =>
    intro i n h fuel hf
    obtain ⟨f, rfl⟩ : ∃ f, fuel = f + 1 := ⟨fuel - 1, by omega⟩
    show f18_0_st N (f18_0_lp N k1 f) k1 _ _ _ _ _ n = _
    rw [key_step N _ _ i (by omega), ih (i + 1) _ (by omega) f (by omega)]
    rfl

theorem nonce_step {R : Type} (N : Nat) (self : Int → List Int → List Int → List Int → Option R) (k1 : Bool → Int → List Int → List Int → List Int → Option R) (i : Nat) (hi : i < 3) (x2 x3 x4 : List Int) :
    f18_2_st N self k1 (i : Int) x2 x3 x4 = self ((i + 1 : Nat) : Int) x2 x3 (x4.set (13 + i) (IntKind.u32.wrap (lowL ((x2.drop (4 * i)).take 4)))) := by
  unfold f18_2_st
  have h0 : decide ((i : Int) < 3) = true := by simp; omega
  have h1 : IntKind.i64.wrap (4 * (i : Int)) = ((4 * i : Nat) : Int) := wrapI (by omega) (by omega)
  have h2 : IntKind.i64.wrap (((4 * i : Nat) : Int) + 4) = ((4 * i + 4 : Nat) : Int) := wrapI (by omega) (by omega)
  have h3 : IntKind.i64.wrap (13 + (i : Int)) = ((13 + i : Nat) : Int) := wrapI (by omega) (by omega)
  have h4 : IntKind.i64.wrap ((i : Int) + 1) = ((i + 1 : Nat) : Int) := wrapI (by omega) (by omega)
  have h5 : (decide ((0 : Int) ≤ ((13 + i : Nat) : Int)) && decide (((13 + i : Nat) : Int) < 16)) = true := by simp; omega
  have h6 : 4 * i + 4 - 4 * i = 4 := by omega
  simp only [h0, h1, h2, h3, h4]
  rw [hiOk_nat (by omega), loOk_nat (by simp [hiInt]; omega), sub_nat, h6, ble_take _ _ _ (by omega), h5]
  simp only [cond_true, mulE_one, Int.toNat_natCast]

def nonceGo (nonce : List Int) : Nat → Nat → List Int → List Int
  | 0, _, s => s
  | m + 1, i, s => nonceGo nonce m (i + 1) (s.set (13 + i) (IntKind.u32.wrap (lowL ((nonce.drop (4 * i)).take 4))))

theorem nonce_loop {R : Type} {N : Nat} (k1 : Bool → Int → List Int → List Int → List Int → Option R) (x2 x3 : List Int) :
    ∀ (m i : Nat) (s : List Int), i + m = 3 → ∀ fuel, m < fuel → f18_2_lp N k1 fuel (i : Int) x2 x3 s = k1 false 3 x2 x3 (nonceGo x2 m i s) := by
  intro m
  induction m with
  | zero =>
    intro i n h fuel hf
    obtain ⟨f, rfl⟩ : ∃ f, fuel = f + 1 := ⟨fuel - 1, by omega⟩
    have : i = 3 := by omega
    subst this
    rfl
  | succ m ih =>
    intro i n h fuel hf
    obtain ⟨f, rfl⟩ : ∃ f, fuel = f + 1 := ⟨fuel - 1, by omega⟩
    show f18_2_st N (f18_2_lp N k1 f) k1 _ _ _ n = _
    rw [nonce_step N _ _ i (by omega), ih (i + 1) _ (by omega) f (by omega)]
    rfl

/-! ### rounds -/

def columns (x : List Int) : List Int := quarterL (quarterL (quarterL (quarterL x 0 4 8 12) 1 5 9 13) 2 6 10 14) 3 7 11 15
def diagonals (x : List Int) : List Int := quarterL (quarterL (quarterL (quarterL x 0 5 10 15) 1 6 11 12) 2 7 8 13) 3 4 9 14

theorem columns_loop {R : Type} (N : Nat) (k1 : Bool → Int → Int → List Int → List Int → List Int → Option R) (x1 : Int) (x3 x4 x5 : List Int) :
    f18_6_lp N k1 20 x1 0 x3 x4 x5 = k1 false x1 4 x3 x4 (columns x5) := by kernel_rfl

theorem diagonals_loop {R : Type} (N : Nat) (k1 : Bool → Int → Int → List Int → List Int → List Int → Option R) (x1 : Int) (x3 x4 x5 : List Int) :
    f18_8_lp N k1 20 x1 0 x3 x4 x5 = k1 false x1 4 x3 x4 (diagonals x5) := by kernel_rfl

def roundsGo : Nat → List Int → List Int
  | 0, x => x
  | m + 1, x => roundsGo m (diagonals (columns x))

theorem rounds_loop {R : Type} (k1 : Bool → Int → List Int → List Int → List Int → Option R) (x2 x3 : List Int) :
    ∀ (m i : Nat) (s : List Int), i + m = 10 → ∀ fuel, m < fuel → f18_4_lp 20 k1 fuel (i : Int) x2 x3 s = k1 false 10 x2 x3 (roundsGo m s) := by
  intro m
  induction m with
  | zero =>
    intro i n h fuel hf
    obtain ⟨f, rfl⟩ : ∃ f, fuel = f + 1 := ⟨fuel - 1, by omega⟩
    have : i = 10 := by omega
    subst this
    rfl
  | succ m ih =>
    intro i n h fuel hf
    obtain ⟨f, rfl⟩ : ∃ f, fuel = f + 1 := ⟨fuel - 1, by omega⟩
    show f18_4_st 20 (f18_4_lp 20 k1 f) k1 _ _ _ n = _
    unfold f18_4_st
    have h0 : decide ((i : Int) < 10) = true := by simp; omega
    rw [h0, cond_true, columns_loop, diagonals_loop]
    simp only
    rw [wrapI (show (i : Int) + 1 = ((i + 1 : Nat) : Int) by omega) (by omega), ih (i + 1) _ (by omega) f (by omega)]
    rfl

/-! ### out -/

def outRun (t s : List Int) : Option (List Int) := f18_10_lp 20 (fun _ _ _ _ _ y6 => some y6) 20 0 [] s t (List.replicate 64 0)

theorem out_some (t s : List Int) : (outRun t s).isSome = true := by kernel_rfl

theorem out_match {R : Type} (k1 : List Int → Option R) (x2 t s : List Int) : f18_10_lp 20 (fun _ _ _ _ _ y6 => k1 y6) 20 0 x2 s t (List.replicate 64 0) = match outRun t s with | some o => k1 o | none => none := by kernel_rfl

def outL (t s : List Int) : List Int := (outRun t s).getD []

theorem out_loop {R : Type} (k1 : List Int → Option R) (x2 t s : List Int) : f18_10_lp 20 (fun _ _ _ _ _ y6 => k1 y6) 20 0 x2 s t (List.replicate 64 0) = k1 (outL t s) := by
  rw [out_match]
  have := out_some t s
  unfold outL
  cases h : outRun t s with
  | none => rw [h] at this; cases this
  | some o => rfl

/-- what the rounds begin with -/
def startL (key : List Int) (ctr : Int) (nonce : List Int) : List Int :=
  nonceGo nonce 3 0 ((keyGo key 8 0 [1634760805, 857760878, 2036477234, 1797285236, 0, 0, 0, 0, 0, 0, 0, 0, 0, 0, 0, 0]).set 12 ctr)

def blockL (key : List Int) (ctr : Int) (nonce : List Int) : List Int :=
  outL (roundsGo 10 (startL key ctr nonce)) (startL key ctr nonce)

theorem f18_spec {R : Type} (key : List Int) (ctr : Int) (nonce : List Int) (k : List DV → Option R) : f18_raw 20 key ctr nonce k = k [.v (.one (.ints .u8 64 (blockL key ctr nonce)))] := by
  unfold f18_raw
  refine (key_loop (N := 20) _ ctr key nonce (List.replicate 64 0) 8 0 _ rfl 20 (by omega)).trans ?_
  refine (nonce_loop (N := 20) _ nonce (List.replicate 64 0) 3 0 _ rfl 20 (by omega)).trans ?_
  refine (rounds_loop _ _ _ 10 0 _ rfl 20 (by omega)).trans ?_
  exact out_loop (fun o => k [.v (.one (.ints .u8 64 o))]) _ _ _

def I18 : (R : Type) → List DV → (List DV → Option R) → Option R := fun _ ds k => match ds with
  | [.v (.one (.ints .u8 32 key)), .v (.one (.int .u32 ctr)), .v (.one (.ints .u8 12 nonce))] => k [.v (.one (.ints .u8 64 (blockL key ctr nonce)))]
  | _ => none

theorem c18 : Contract Try.prog 18 { sig := S18, impl := I18 } := by
  refine Contract.refine fun R ds k r h => ⟨_, f18_contract 20 G18_ok, ?_⟩
  unfold I18 at h
  split at h
  · rw [f18_raw_eq, f18_spec]; exact h
  · cases h

def G16 : Ctx := [(18, { sig := S18, impl := I18 })]
theorem G16_ok : CtxOk Try.prog G16 := ctxOk_cons ok18 rfl c18 ctxOk_nil

end Go.Proofs.Ytiaddnmloonhgaa

/- What rime/seal.Stream comes to. MADE BY PROGRAM (wip/tools/mkfn.py, EngGen.lean). -/
namespace Go.Proofs.Ytiaddnmloonhgaa
open Go Go.Eng
set_option maxRecDepth 100000
set_option linter.unusedVariables false

def f16_2_sh : Shp := { n := 63, lo := 4, slots := [(1, .one (.int Go.IntKind.u32)), (4, .one (.fix (Go.Eng.At.ptr 4 0 Go.Eng.Off.z 32))), (6, .one (.fix (Go.Eng.At.ptr 6 0 Go.Eng.Off.z 12))), (11, .one (.fix (Go.Eng.At.own 26))), (12, .one (.int Go.IntKind.i64)), (13, .one (.fix (Go.Eng.At.ptr 13 0 Go.Eng.Off.z 64))), (14, .one (.int Go.IntKind.i64))], items := [(4, .obj [.ints Go.IntKind.u8 32]), (6, .obj [.ints Go.IntKind.u8 12]), (13, .obj [.ints Go.IntKind.u8 64]), (26, .row Go.IntKind.u8 1)] }
def f16_2_ex1 : Shp := { n := 63, lo := 4, slots := [(48, .one (.bool)), (1, .one (.int Go.IntKind.u32)), (4, .one (.fix (Go.Eng.At.ptr 4 0 Go.Eng.Off.z 32))), (6, .one (.fix (Go.Eng.At.ptr 6 0 Go.Eng.Off.z 12))), (11, .one (.fix (Go.Eng.At.own 26))), (12, .one (.int Go.IntKind.i64)), (13, .one (.fix (Go.Eng.At.ptr 13 0 Go.Eng.Off.z 64))), (14, .one (.int Go.IntKind.i64))], items := [(4, .obj [.ints Go.IntKind.u8 32]), (6, .obj [.ints Go.IntKind.u8 12]), (13, .obj [.ints Go.IntKind.u8 64]), (26, .row Go.IntKind.u8 1)] }
def f16_2_st {R : Type} (N : Nat) (self : Int → Int → Int → List Int → List Int → List Int → List Int → Option R) (k1 : Bool → Int → Int → Int → List Int → List Int → List Int → List Int → Option R) (x1 : Int) (x2 : Int) (x3 : Int) (x4 : List Int) (x5 : List Int) (x6 : List Int) (x7 : List Int) : Option R :=
  let v0 : Int := Go.IntKind.i64.wrap (x2 + 64);
bif Decidable.decide (x3 < Go.Eng.minI v0 (Go.Eng.nI (Go.Eng.rowLen 1 x7))) then
  bif Decidable.decide (0 ≤ x3) && Decidable.decide (x3 < Go.Eng.nI (Go.Eng.rowLen 1 x7)) then
    let v1 : Int := Go.IntKind.i64.wrap (x3 - x2);
    bif Decidable.decide (0 ≤ v1) && Decidable.decide (v1 < 64) then
      bif Decidable.decide (0 ≤ x3) && Decidable.decide (x3 < Go.Eng.nI (Go.Eng.rowLen 1 x7)) then
        let v2 : Int := Go.IntKind.i64.wrap (x3 + 1);
        let v3 : Int := Go.Eng.xorI Go.IntKind.u8 (x7.getD (Go.Eng.mulE x3.toNat 1) 0) (x6.getD (Go.Eng.mulE v1.toNat 1) 0);
        let v4 : List Int := x7.set (Go.Eng.mulE x3.toNat 1) v3;
        self x1 x2 v2 x4 x5 x6 v4
      else Option.none
    else Option.none
  else Option.none
else k1 (Decidable.decide (x3 < Go.Eng.minI v0 (Go.Eng.nI (Go.Eng.rowLen 1 x7)))) x1 x2 x3 x4 x5 x6 x7
def f16_2_lp {R : Type} (N : Nat) (k1 : Bool → Int → Int → Int → List Int → List Int → List Int → List Int → Option R) : Nat → Int → Int → Int → List Int → List Int → List Int → List Int → Option R
  | 0, _, _, _, _, _, _, _ => none
  | n + 1, x1, x2, x3, x4, x5, x6, x7 => f16_2_st N (f16_2_lp N k1 n) k1 x1 x2 x3 x4 x5 x6 x7
def f16_2_F (N : Nat) : (R : Type) → List Leaf → (X → AS → Option R) → Option R := fun _ ls K => match ls with
  | [.i x1, .i x2, .i x3, .l x4, .l x5, .l x6, .l x7] => f16_2_lp N (fun y1 y2 y3 y4 y5 y6 y7 y8 => K (Go.Eng.X.normal) (fill f16_2_ex1 [.b y1, .i y2, .i y3, .i y4, .l y5, .l y6, .l y7, .l y8])) N x1 x2 x3 x4 x5 x6 x7
  | _ => none
def f16_0_sh : Shp := { n := 63, lo := 4, slots := [(1, .one (.int Go.IntKind.u32)), (4, .one (.fix (Go.Eng.At.ptr 4 0 Go.Eng.Off.z 32))), (6, .one (.fix (Go.Eng.At.ptr 6 0 Go.Eng.Off.z 12))), (11, .one (.fix (Go.Eng.At.own 26))), (12, .one (.int Go.IntKind.i64))], items := [(4, .obj [.ints Go.IntKind.u8 32]), (6, .obj [.ints Go.IntKind.u8 12]), (26, .row Go.IntKind.u8 1)] }
def f16_0_ex1 : Shp := { n := 63, lo := 4, slots := [(30, .one (.bool)), (1, .one (.int Go.IntKind.u32)), (4, .one (.fix (Go.Eng.At.ptr 4 0 Go.Eng.Off.z 32))), (6, .one (.fix (Go.Eng.At.ptr 6 0 Go.Eng.Off.z 12))), (11, .one (.fix (Go.Eng.At.own 26))), (12, .one (.int Go.IntKind.i64))], items := [(4, .obj [.ints Go.IntKind.u8 32]), (6, .obj [.ints Go.IntKind.u8 12]), (26, .row Go.IntKind.u8 1)] }
def f16_0_st {R : Type} (N : Nat) (self : Int → Int → List Int → List Int → List Int → Option R) (k1 : Bool → Int → Int → List Int → List Int → List Int → Option R) (x1 : Int) (x2 : Int) (x3 : List Int) (x4 : List Int) (x5 : List Int) : Option R :=
  bif Decidable.decide (x2 < Go.Eng.nI (Go.Eng.rowLen 1 x5)) then
  let v0 : Int := Go.IntKind.i64.wrap (x2.tdiv 64);
  let v1 : Int := Go.IntKind.u32.wrap v0;
  let v2 : Int := Go.IntKind.u32.wrap (x1 + v1);
  f16_2_lp N
    (fun w3_1 w3_2 w3_3 w3_4 w3_5 w3_6 w3_7 w3_8 =>
      let v4 : Int := Go.IntKind.i64.wrap (w3_3 + 64);
      self w3_2 v4 w3_5 w3_6 w3_8)
    N x1 x2 x2 x3 x4 (Go.Proofs.Ytiaddnmloonhgaa.blockL x3 v2 x4) x5
else k1 (Decidable.decide (x2 < Go.Eng.nI (Go.Eng.rowLen 1 x5))) x1 x2 x3 x4 x5
def f16_0_lp {R : Type} (N : Nat) (k1 : Bool → Int → Int → List Int → List Int → List Int → Option R) : Nat → Int → Int → List Int → List Int → List Int → Option R
  | 0, _, _, _, _, _ => none
  | n + 1, x1, x2, x3, x4, x5 => f16_0_st N (f16_0_lp N k1 n) k1 x1 x2 x3 x4 x5
def f16_0_F (N : Nat) : (R : Type) → List Leaf → (X → AS → Option R) → Option R := fun _ ls K => match ls with
  | [.i x1, .i x2, .l x3, .l x4, .l x5] => f16_0_lp N (fun y1 y2 y3 y4 y5 y6 => K (Go.Eng.X.normal) (fill f16_0_ex1 [.b y1, .i y2, .i y3, .l y4, .l y5, .l y6])) N x1 x2 x3 x4 x5
  | _ => none
def f16_raw {R : Type} (N : Nat) (key : List Int) (ctr : Int) (nonce : List Int) (b : List Int) (k : List DV → Option R) : Option R :=
 let v0 : Int := Go.IntKind.u64.wrap ctr;
let v1 : Int := Go.IntKind.i64.wrap (Go.Eng.nI (Go.Eng.rowLen 1 b) + 63);
let v2 : Int := Go.IntKind.u64.wrap v1;
let v3 : Int := Go.IntKind.u64.wrap (v2.tdiv 64);
let v4 : Int := Go.IntKind.u64.wrap (v0 + v3);
bif Decidable.decide (v4 > 4294967296) then k [Go.Eng.DV.lst Go.IntKind.u8 1 [], Go.Eng.DV.v (Go.Eng.SV.one (Go.Eng.At.int Go.IntKind.i64 122))] else bif (Go.Eng.rowLen 1 b * 1).ble Go.Eng.big48 && (Go.Eng.rowLen 1 b).ble Go.Eng.big48 then f16_0_lp N (fun w5_1 w5_2 w5_3 w5_4 w5_5 w5_6 => k [Go.Eng.DV.lst Go.IntKind.u8 1 w5_6, Go.Eng.DV.v (Go.Eng.SV.one (Go.Eng.At.int Go.IntKind.i64 0))]) N ctr 0 key nonce b else Option.none


noncomputable def E16 (N : Nat) : Env := { Θ := Th, Γ := G16, K := K16, ν := N16, fuel := 0, lp := [(0, mkL N16_0 f16_0_sh (f16_0_F N)), (2, mkL N16_2 f16_2_sh (f16_2_F N))] }

theorem f16_2_st_eq {R : Type} (N : Nat) (K : X → AS → Option R) (n : Nat) (x1 : Int) (x2 : Int) (x3 : Int) (x4 : List Int) (x5 : List Int) (x6 : List Int) (x7 : List Int) : roundsOf (E16 N) N16_2 2 B16_2 K (n + 1) (fill f16_2_sh [.i x1, .i x2, .i x3, .l x4, .l x5, .l x6, .l x7]) = f16_2_st N (fun x1 x2 x3 x4 x5 x6 x7 => roundsOf (E16 N) N16_2 2 B16_2 K n (fill f16_2_sh [.i x1, .i x2, .i x3, .l x4, .l x5, .l x6, .l x7])) (fun y1 y2 y3 y4 y5 y6 y7 y8 => K (Go.Eng.X.normal) (fill f16_2_ex1 [.b y1, .i y2, .i y3, .i y4, .l y5, .l y6, .l y7, .l y8])) x1 x2 x3 x4 x5 x6 x7 := by kernel_rfl
theorem f16_2_lp_eq {R : Type} (N : Nat) (K : X → AS → Option R) : ∀ (n : Nat) (x1 : Int) (x2 : Int) (x3 : Int) (x4 : List Int) (x5 : List Int) (x6 : List Int) (x7 : List Int), roundsOf (E16 N) N16_2 2 B16_2 K n (fill f16_2_sh [.i x1, .i x2, .i x3, .l x4, .l x5, .l x6, .l x7]) = f16_2_lp N (fun y1 y2 y3 y4 y5 y6 y7 y8 => K (Go.Eng.X.normal) (fill f16_2_ex1 [.b y1, .i y2, .i y3, .i y4, .l y5, .l y6, .l y7, .l y8])) n x1 x2 x3 x4 x5 x6 x7
  | 0, _, _, _, _, _, _, _ => rfl
  | n + 1, x1, x2, x3, x4, x5, x6, x7 => by
    rw [f16_2_st_eq, f16_2_lp, show (fun x1 x2 x3 x4 x5 x6 x7 => roundsOf (E16 N) N16_2 2 B16_2 K n (fill f16_2_sh [.i x1, .i x2, .i x3, .l x4, .l x5, .l x6, .l x7])) = f16_2_lp N (fun y1 y2 y3 y4 y5 y6 y7 y8 => K (Go.Eng.X.normal) (fill f16_2_ex1 [.b y1, .i y2, .i y3, .i y4, .l y5, .l y6, .l y7, .l y8])) n from by funext x1 x2 x3 x4 x5 x6 x7; exact f16_2_lp_eq N K n x1 x2 x3 x4 x5 x6 x7]
theorem f16_2_ok (N : Nat) (hlp : LoopsOk Try.prog (E16 N).lp B16_2) (hΓ : CtxOk Try.prog (E16 N).Γ) : LoopOk Try.prog (mkL N16_2 f16_2_sh (f16_2_F N)) 2 B16_2 := by
  refine loopOk_of (E := E16 N) thOk hΓ mixed hlp ?_
  intro R ls K r h
  unfold f16_2_F at h
  split at h
  · exact ⟨N, by rw [f16_2_lp_eq]; exact h⟩
  · cases h
theorem f16_0_st_eq {R : Type} (N : Nat) (K : X → AS → Option R) (n : Nat) (x1 : Int) (x2 : Int) (x3 : List Int) (x4 : List Int) (x5 : List Int) : roundsOf (E16 N) N16_0 0 B16_0 K (n + 1) (fill f16_0_sh [.i x1, .i x2, .l x3, .l x4, .l x5]) = f16_0_st N (fun x1 x2 x3 x4 x5 => roundsOf (E16 N) N16_0 0 B16_0 K n (fill f16_0_sh [.i x1, .i x2, .l x3, .l x4, .l x5])) (fun y1 y2 y3 y4 y5 y6 => K (Go.Eng.X.normal) (fill f16_0_ex1 [.b y1, .i y2, .i y3, .l y4, .l y5, .l y6])) x1 x2 x3 x4 x5 := by kernel_rfl
theorem f16_0_lp_eq {R : Type} (N : Nat) (K : X → AS → Option R) : ∀ (n : Nat) (x1 : Int) (x2 : Int) (x3 : List Int) (x4 : List Int) (x5 : List Int), roundsOf (E16 N) N16_0 0 B16_0 K n (fill f16_0_sh [.i x1, .i x2, .l x3, .l x4, .l x5]) = f16_0_lp N (fun y1 y2 y3 y4 y5 y6 => K (Go.Eng.X.normal) (fill f16_0_ex1 [.b y1, .i y2, .i y3, .l y4, .l y5, .l y6])) n x1 x2 x3 x4 x5
  | 0, _, _, _, _, _ => rfl
  | n + 1, x1, x2, x3, x4, x5 => by
    rw [f16_0_st_eq, f16_0_lp, show (fun x1 x2 x3 x4 x5 => roundsOf (E16 N) N16_0 0 B16_0 K n (fill f16_0_sh [.i x1, .i x2, .l x3, .l x4, .l x5])) = f16_0_lp N (fun y1 y2 y3 y4 y5 y6 => K (Go.Eng.X.normal) (fill f16_0_ex1 [.b y1, .i y2, .i y3, .l y4, .l y5, .l y6])) n from by funext x1 x2 x3 x4 x5; exact f16_0_lp_eq N K n x1 x2 x3 x4 x5]
theorem f16_0_ok (N : Nat) (hlp : LoopsOk Try.prog (E16 N).lp B16_0) (hΓ : CtxOk Try.prog (E16 N).Γ) : LoopOk Try.prog (mkL N16_0 f16_0_sh (f16_0_F N)) 0 B16_0 := by
  refine loopOk_of (E := E16 N) thOk hΓ mixed hlp ?_
  intro R ls K r h
  unfold f16_0_F at h
  split at h
  · exact ⟨N, by rw [f16_0_lp_eq]; exact h⟩
  · cases h

theorem lok16_2 (N : Nat) (hΓ : CtxOk Try.prog G16) : LoopOk Try.prog (mkL N16_2 f16_2_sh (f16_2_F N)) 2 B16_2 := f16_2_ok N (loopsOk_of (l := []) (by kernel_rfl) trivial) hΓ
theorem lok16_0 (N : Nat) (hΓ : CtxOk Try.prog G16) : LoopOk Try.prog (mkL N16_0 f16_0_sh (f16_0_F N)) 0 B16_0 := f16_0_ok N (loopsOk_of (l := [(2, B16_2)]) (by kernel_rfl) (allOk_cons (L := mkL N16_2 f16_2_sh (f16_2_F N)) rfl (lok16_2 N hΓ) trivial)) hΓ
theorem f16_contract (N : Nat) (hΓ : CtxOk Try.prog G16) : Contract Try.prog 16 { sig := S16, impl := fun _ ds k => call (E16 N) S16 63 B16 R16 ds k } :=
  call_contract (E := E16 N) thOk hΓ mixed ok16.look ok16.body ok16.n ok16.rv ok16.name rfl (by decide) (loopsOk_of (l := [(0, B16_0), (2, B16_2)]) (by kernel_rfl) (allOk_cons (L := mkL N16_0 f16_0_sh (f16_0_F N)) rfl (lok16_0 N hΓ) (allOk_cons (L := mkL N16_2 f16_2_sh (f16_2_F N)) rfl (lok16_2 N hΓ) trivial)))
theorem f16_raw_eq {R : Type} (N : Nat) (key : List Int) (ctr : Int) (nonce : List Int) (b : List Int) (k : List DV → Option R) : call (E16 N) S16 63 B16 R16 [.v (.one (.ints .u8 32 key)), .v (.one (.int .u32 ctr)), .v (.one (.ints .u8 12 nonce)), .lst .u8 1 b] k = f16_raw N key ctr nonce b k := by kernel_rfl
end Go.Proofs.Ytiaddnmloonhgaa

/- What rime/rimeplain.SameBytes comes to. MADE BY PROGRAM (wip/tools/mkfn.py, EngGen.lean). -/
namespace Go.Proofs.Ytiaddnmloonhgaa
open Go Go.Eng
set_option maxRecDepth 100000
set_option linter.unusedVariables false

def f20_0_sh : Shp := { n := 26, lo := 2, slots := [(0, .one (.fix (Go.Eng.At.own 0))), (1, .one (.fix (Go.Eng.At.own 1))), (5, .one (.int Go.IntKind.i64))], items := [(0, .view Go.IntKind.u8 1), (1, .view Go.IntKind.u8 1)] }
def f20_0_ex1 : Shp := { n := 26, lo := 2, slots := [(4, .one (.bool)), (25, .one (.bool)), (14, .one (.bool)), (0, .one (.fix (Go.Eng.At.own 0))), (1, .one (.fix (Go.Eng.At.own 1))), (5, .one (.int Go.IntKind.i64))], items := [(0, .view Go.IntKind.u8 1), (1, .view Go.IntKind.u8 1)] }
def f20_0_ex2 : Shp := { n := 26, lo := 2, slots := [(14, .one (.bool)), (0, .one (.fix (Go.Eng.At.own 0))), (1, .one (.fix (Go.Eng.At.own 1))), (5, .one (.int Go.IntKind.i64))], items := [(0, .view Go.IntKind.u8 1), (1, .view Go.IntKind.u8 1)] }
def f20_0_st {R : Type} (N : Nat) (self : Int → List Int → List Int → Option R) (k1 : Bool → Bool → Bool → Int → List Int → List Int → Option R) (k2 : Bool → Int → List Int → List Int → Option R) (x1 : Int) (x2 : List Int) (x3 : List Int) : Option R :=
  bif Decidable.decide (x1 < Go.Eng.nI (Go.Eng.rowLen 1 x2)) then
  bif Decidable.decide (0 ≤ x1) && Decidable.decide (x1 < Go.Eng.nI (Go.Eng.rowLen 1 x2)) then
    bif Decidable.decide (0 ≤ x1) && Decidable.decide (x1 < Go.Eng.nI (Go.Eng.rowLen 1 x3)) then
      bif x2.getD (Go.Eng.mulE x1.toNat 1) 0 != x3.getD (Go.Eng.mulE x1.toNat 1) 0 then k1 Bool.false (x2.getD (Go.Eng.mulE x1.toNat 1) 0 != x3.getD (Go.Eng.mulE x1.toNat 1) 0) (Decidable.decide (x1 < Go.Eng.nI (Go.Eng.rowLen 1 x2))) x1 x2 x3
      else
        let v0 : Int := Go.IntKind.i64.wrap (x1 + 1);
        self v0 x2 x3
    else Option.none
  else Option.none
else k2 (Decidable.decide (x1 < Go.Eng.nI (Go.Eng.rowLen 1 x2))) x1 x2 x3
def f20_0_lp {R : Type} (N : Nat) (k1 : Bool → Bool → Bool → Int → List Int → List Int → Option R) (k2 : Bool → Int → List Int → List Int → Option R) : Nat → Int → List Int → List Int → Option R
  | 0, _, _, _ => none
  | n + 1, x1, x2, x3 => f20_0_st N (f20_0_lp N k1 k2 n) k1 k2 x1 x2 x3
def f20_0_F (N : Nat) : (R : Type) → List Leaf → (X → AS → Option R) → Option R := fun _ ls K => match ls with
  | [.i x1, .l x2, .l x3] => f20_0_lp N (fun y1 y2 y3 y4 y5 y6 => K (Go.Eng.X.ret) (fill f20_0_ex1 [.b y1, .b y2, .b y3, .i y4, .l y5, .l y6])) (fun y1 y2 y3 y4 => K (Go.Eng.X.normal) (fill f20_0_ex2 [.b y1, .i y2, .l y3, .l y4])) N x1 x2 x3
  | _ => none
def f20_raw {R : Type} (N : Nat) (a : List Int) (b : List Int) (k : List DV → Option R) : Option R :=
 bif Go.Eng.nI (Go.Eng.rowLen 1 a) != Go.Eng.nI (Go.Eng.rowLen 1 b) then k [Go.Eng.DV.v (Go.Eng.SV.one (Go.Eng.At.bool Bool.false))] else f20_0_lp N (fun w0_1 w0_2 w0_3 w0_4 w0_5 w0_6 => k [Go.Eng.DV.v (Go.Eng.SV.one (Go.Eng.At.bool w0_1))]) (fun w1_1 w1_2 w1_3 w1_4 => k [Go.Eng.DV.v (Go.Eng.SV.one (Go.Eng.At.bool Bool.true))]) N 0 a b


noncomputable def E20 (N : Nat) : Env := { Θ := Th, Γ := [], K := K20, ν := N20, fuel := 0, lp := [(0, mkL N20_0 f20_0_sh (f20_0_F N))] }

theorem f20_0_st_eq {R : Type} (N : Nat) (K : X → AS → Option R) (n : Nat) (x1 : Int) (x2 : List Int) (x3 : List Int) : roundsOf (E20 N) N20_0 0 B20_0 K (n + 1) (fill f20_0_sh [.i x1, .l x2, .l x3]) = f20_0_st N (fun x1 x2 x3 => roundsOf (E20 N) N20_0 0 B20_0 K n (fill f20_0_sh [.i x1, .l x2, .l x3])) (fun y1 y2 y3 y4 y5 y6 => K (Go.Eng.X.ret) (fill f20_0_ex1 [.b y1, .b y2, .b y3, .i y4, .l y5, .l y6])) (fun y1 y2 y3 y4 => K (Go.Eng.X.normal) (fill f20_0_ex2 [.b y1, .i y2, .l y3, .l y4])) x1 x2 x3 := by kernel_rfl
theorem f20_0_lp_eq {R : Type} (N : Nat) (K : X → AS → Option R) : ∀ (n : Nat) (x1 : Int) (x2 : List Int) (x3 : List Int), roundsOf (E20 N) N20_0 0 B20_0 K n (fill f20_0_sh [.i x1, .l x2, .l x3]) = f20_0_lp N (fun y1 y2 y3 y4 y5 y6 => K (Go.Eng.X.ret) (fill f20_0_ex1 [.b y1, .b y2, .b y3, .i y4, .l y5, .l y6])) (fun y1 y2 y3 y4 => K (Go.Eng.X.normal) (fill f20_0_ex2 [.b y1, .i y2, .l y3, .l y4])) n x1 x2 x3
  | 0, _, _, _ => rfl
  | n + 1, x1, x2, x3 => by
    rw [f20_0_st_eq, f20_0_lp, show (fun x1 x2 x3 => roundsOf (E20 N) N20_0 0 B20_0 K n (fill f20_0_sh [.i x1, .l x2, .l x3])) = f20_0_lp N (fun y1 y2 y3 y4 y5 y6 => K (Go.Eng.X.ret) (fill f20_0_ex1 [.b y1, .b y2, .b y3, .i y4, .l y5, .l y6])) (fun y1 y2 y3 y4 => K (Go.Eng.X.normal) (fill f20_0_ex2 [.b y1, .i y2, .l y3, .l y4])) n from by funext x1 x2 x3; exact f20_0_lp_eq N K n x1 x2 x3]
theorem f20_0_ok (N : Nat) (hlp : LoopsOk Try.prog (E20 N).lp B20_0) (hΓ : CtxOk Try.prog (E20 N).Γ) : LoopOk Try.prog (mkL N20_0 f20_0_sh (f20_0_F N)) 0 B20_0 := by
  refine loopOk_of (E := E20 N) thOk hΓ mixed hlp ?_
  intro R ls K r h
  unfold f20_0_F at h
  split at h
  · exact ⟨N, by rw [f20_0_lp_eq]; exact h⟩
  · cases h

theorem lok20_0 (N : Nat) (hΓ : CtxOk Try.prog []) : LoopOk Try.prog (mkL N20_0 f20_0_sh (f20_0_F N)) 0 B20_0 := f20_0_ok N (loopsOk_of (l := []) (by kernel_rfl) trivial) hΓ
theorem f20_contract (N : Nat) (hΓ : CtxOk Try.prog []) : Contract Try.prog 20 { sig := S20, impl := fun _ ds k => call (E20 N) S20 26 B20 R20 ds k } :=
  call_contract (E := E20 N) thOk hΓ mixed ok20.look ok20.body ok20.n ok20.rv ok20.name rfl (by decide) (loopsOk_of (l := [(0, B20_0)]) (by kernel_rfl) (allOk_cons (L := mkL N20_0 f20_0_sh (f20_0_F N)) rfl (lok20_0 N hΓ) trivial))
theorem f20_raw_eq {R : Type} (N : Nat) (a : List Int) (b : List Int) (k : List DV → Option R) : call (E20 N) S20 26 B20 R20 [.lst .u8 1 a, .lst .u8 1 b] k = f20_raw N a b k := by kernel_rfl
end Go.Proofs.Ytiaddnmloonhgaa

/- What rime/rimeplain.CopyBytes comes to. MADE BY PROGRAM (wip/tools/mkfn.py, EngGen.lean). -/
namespace Go.Proofs.Ytiaddnmloonhgaa
open Go Go.Eng
set_option maxRecDepth 100000
set_option linter.unusedVariables false

def f30_raw {R : Type} (N : Nat) (a : List Int) (k : List DV → Option R) : Option R :=
 bif (Go.Eng.rowLen 1 a * 1).ble Go.Eng.big48 && (Go.Eng.rowLen 1 a).ble Go.Eng.big48 then k [Go.Eng.DV.lst Go.IntKind.u8 1 a] else Option.none


noncomputable def E30 (N : Nat) : Env := { Θ := Th, Γ := [], K := K30, ν := N30, fuel := 0, lp := [] }


theorem f30_contract (N : Nat) (hΓ : CtxOk Try.prog []) : Contract Try.prog 30 { sig := S30, impl := fun _ ds k => call (E30 N) S30 8 B30 R30 ds k } :=
  call_contract (E := E30 N) thOk hΓ mixed ok30.look ok30.body ok30.n ok30.rv ok30.name rfl (by decide) (loopsOk_of (l := []) (by kernel_rfl) trivial)
theorem f30_raw_eq {R : Type} (N : Nat) (a : List Int) (k : List DV → Option R) : call (E30 N) S30 8 B30 R30 [.lst .u8 1 a] k = f30_raw N a k := by kernel_rfl
end Go.Proofs.Ytiaddnmloonhgaa

/- What rime/seal.tag$1 comes to. MADE BY PROGRAM (wip/tools/mkfn.py, EngGen.lean). -/
namespace Go.Proofs.Ytiaddnmloonhgaa
open Go Go.Eng
set_option maxRecDepth 100000
set_option linter.unusedVariables false

def f96_raw {R : Type} (N : Nat) (a : List Int) (k : List DV → Option R) : Option R :=
 bif (Go.Eng.rowLen 1 a * 1).ble Go.Eng.big48 && (Go.Eng.rowLen 1 a).ble Go.Eng.big48 then
 let v0 : Int := Go.IntKind.i64.wrap (16 - (Go.Eng.nI (Go.Eng.rowLen 1 a)).tmod 16);
 bif Go.Eng.okCnt 1 (Option.some (v0.tmod 16)) then
 bif ((2 * (Go.Eng.rowLen 1 a + Go.Eng.rowLen 1 (Go.Eng.zerosOf (Go.Eng.mulE (v0.tmod 16).toNat 1))) + 192) * 1).ble Go.Eng.big48 && (Go.Eng.rowLen 1 a + Go.Eng.rowLen 1 (Go.Eng.zerosOf (Go.Eng.mulE (v0.tmod 16).toNat 1))).ble Go.Eng.big48 then
 let v1 : List Int := a ++ Go.Eng.zerosOf (Go.Eng.mulE (v0.tmod 16).toNat 1);
 k [Go.Eng.DV.lst Go.IntKind.u8 1 v1]
 else Option.none
 else Option.none
else Option.none


noncomputable def E96 (N : Nat) : Env := { Θ := Th, Γ := [], K := K96, ν := N96, fuel := 0, lp := [] }


theorem f96_contract (N : Nat) (hΓ : CtxOk Try.prog []) : Contract Try.prog 96 { sig := S96, impl := fun _ ds k => call (E96 N) S96 13 B96 R96 ds k } :=
  call_contract (E := E96 N) thOk hΓ mixed ok96.look ok96.body ok96.n ok96.rv ok96.name rfl (by decide) (loopsOk_of (l := []) (by kernel_rfl) trivial)
theorem f96_raw_eq {R : Type} (N : Nat) (a : List Int) (k : List DV → Option R) : call (E96 N) S96 13 B96 R96 [.lst .u8 1 a] k = f96_raw N a k := by kernel_rfl
end Go.Proofs.Ytiaddnmloonhgaa

/- What rime/rimelaw12.num comes to. MADE BY PROGRAM (wip/tools/mkfn.py, EngGen.lean). -/
namespace Go.Proofs.Ytiaddnmloonhgaa
open Go Go.Eng
set_option maxRecDepth 100000
set_option linter.unusedVariables false

def f21_raw {R : Type} (N : Nat) (a : Int) (k : List DV → Option R) : Option R :=
 k [Go.Eng.DV.v (Go.Eng.SV.one (Go.Eng.At.int Go.IntKind.i64 a))]


noncomputable def E21 (N : Nat) : Env := { Θ := Th, Γ := [], K := K21, ν := N21, fuel := 0, lp := [] }


theorem f21_contract (N : Nat) (hΓ : CtxOk Try.prog []) : Contract Try.prog 21 { sig := S21, impl := fun _ ds k => call (E21 N) S21 4 B21 R21 ds k } :=
  call_contract (E := E21 N) thOk hΓ mixed ok21.look ok21.body ok21.n ok21.rv ok21.name rfl (by decide) (loopsOk_of (l := []) (by kernel_rfl) trivial)
theorem f21_raw_eq {R : Type} (N : Nat) (a : Int) (k : List DV → Option R) : call (E21 N) S21 4 B21 R21 [.v (.one (.int .i64 a))] k = f21_raw N a k := by kernel_rfl
end Go.Proofs.Ytiaddnmloonhgaa

/- Streams; small helpers. -/
namespace Go.Proofs.Ytiaddnmloonhgaa
open Go Go.Eng
set_option maxRecDepth 100000

def lim : Nat := 1099511627776

theorem wrapU64 {n : Nat} (h : n < 2 ^ 62) : IntKind.u64.wrap (n : Int) = n := by
  unfold IntKind.wrap
  simp only [IntKind.bits, IntKind.signed]
  have e : (n : Int) % 2 ^ 64 = n := Int.emod_eq_of_lt (by omega) (by omega)
  simp only [e]
  simp

theorem wrapU32 {n : Nat} (h : n < 4294967296) : IntKind.u32.wrap (n : Int) = n := by
  unfold IntKind.wrap
  simp only [IntKind.bits, IntKind.signed]
  have e : (n : Int) % 2 ^ 32 = n := Int.emod_eq_of_lt (by omega) (by omega)
  simp only [e]
  simp

/-! ### CopyBytes, num -/

def I30 : (R : Type) → List DV → (List DV → Option R) → Option R := fun _ ds k => match ds with
  | [.lst .u8 1 a] => cond (Nat.ble a.length lim) (k [.lst .u8 1 a]) none
  | _ => none

theorem c30 : Contract Try.prog 30 { sig := S30, impl := I30 } := by
  refine Contract.refine fun R ds k r h => ⟨_, f30_contract 0 ctxOk_nil, ?_⟩
  unfold I30 at h
  split at h
  · rename_i a
    rw [f30_raw_eq]
    cases hb : Nat.ble a.length lim with
    | true =>
      rw [hb] at h
      have hb := Nat.le_of_ble_eq_true hb
      unfold f30_raw
      rw [show ((rowLen 1 a * 1).ble big48 && (rowLen 1 a).ble big48) = true by simp [rowLen_one, big48, lim] at *; omega]
      exact h
    | false => rw [hb] at h; cases h
  · cases h

def I21 : (R : Type) → List DV → (List DV → Option R) → Option R := fun _ ds k => match ds with
  | [.v (.one (.int .i64 a))] => k [.v (.one (.int .i64 a))]
  | _ => none

theorem c21 : Contract Try.prog 21 { sig := S21, impl := I21 } := by
  refine Contract.refine fun R ds k r h => ⟨_, f21_contract 0 ctxOk_nil, ?_⟩
  unfold I21 at h
  split at h
  · rw [f21_raw_eq]; exact h
  · cases h

/-! ### pad -/

def padN (n : Nat) : Nat := (16 - n % 16) % 16
def padL (a : List Int) : List Int := a ++ List.replicate (padN a.length) 0

def I96 : (R : Type) → List DV → (List DV → Option R) → Option R := fun _ ds k => match ds with
  | [.lst .u8 1 a] => cond (Nat.ble a.length lim) (k [.lst .u8 1 (padL a)]) none
  | _ => none

theorem c96 : Contract Try.prog 96 { sig := S96, impl := I96 } := by
  refine Contract.refine fun R ds k r h => ⟨_, f96_contract 0 ctxOk_nil, ?_⟩
  unfold I96 at h
  split at h
  · rename_i a
    rw [f96_raw_eq]
    cases hb : Nat.ble a.length lim with
    | true =>
      rw [hb] at h
      have hb := Nat.le_of_ble_eq_true hb
      have hb' : a.length ≤ 1099511627776 := hb
      unfold f96_raw
      have e1 : (nI (rowLen 1 a)).tmod 16 = ((a.length % 16 : Nat) : Int) := (Int.ofNat_tmod a.length 16).symm
      have e2 : IntKind.i64.wrap (16 - ((a.length % 16 : Nat) : Int)) = ((16 - a.length % 16 : Nat) : Int) := wrapI (by omega) (by omega)
      have e3 : (((16 - a.length % 16 : Nat) : Int)).tmod 16 = ((padN a.length : Nat) : Int) := (Int.ofNat_tmod (16 - a.length % 16) 16).symm
      have hp : padN a.length < 16 := Nat.mod_lt _ (by omega)
      rw [show ((rowLen 1 a * 1).ble big48 && (rowLen 1 a).ble big48) = true by simp [rowLen_one, big48]; omega]
      simp only [e1, e2, e3, cond_true, mulE_one, Int.toNat_natCast]
      rw [show okCnt 1 (some ((padN a.length : Nat) : Int)) = true by simp [okCnt]; omega]
      rw [show (((2 * (rowLen 1 a + rowLen 1 (zerosOf (padN a.length))) + 192) * 1).ble big48 && (rowLen 1 a + rowLen 1 (zerosOf (padN a.length))).ble big48) = true by
        simp [rowLen_one, big48, zerosOf]; omega]
      exact h
    | false => rw [hb] at h; cases h
  · cases h

/-! ### SameBytes -/

theorem same_loop {R : Type} {N : Nat} (k1 : Bool → Option R) (a b : List Int) (hl : a.length = b.length) (hb : a.length ≤ lim) :
    ∀ (m i : Nat), i + m = a.length → ∀ fuel, m < fuel → f20_0_lp N (fun y _ _ _ _ _ => k1 y) (fun _ _ _ _ => k1 true) fuel (i : Int) a b = k1 (decide (a.drop i = b.drop i)) := by
  have hb' : a.length ≤ 1099511627776 := hb
  intro m
  induction m with
  | zero =>
    intro i h fuel hf
    obtain ⟨f, rfl⟩ : ∃ f, fuel = f + 1 := ⟨fuel - 1, by omega⟩
    have : i = a.length := by omega
    subst this
    show f20_0_st N (f20_0_lp N _ _ f) _ _ _ a b = _
    unfold f20_0_st
    rw [show decide (((a.length : Nat) : Int) < nI (rowLen 1 a)) = false by simp [rowLen_one]]
    rw [List.drop_length, hl, List.drop_length]
    simp
  | succ m ih =>
    intro i h fuel hf
    obtain ⟨f, rfl⟩ : ∃ f, fuel = f + 1 := ⟨fuel - 1, by omega⟩
    show f20_0_st N (f20_0_lp N _ _ f) _ _ _ a b = _
    unfold f20_0_st
    have h1 : decide ((i : Int) < nI (rowLen 1 a)) = true := by simp [rowLen_one]; omega
    have h2 : (decide ((0 : Int) ≤ (i : Int)) && decide ((i : Int) < nI (rowLen 1 a))) = true := by simp [rowLen_one]; omega
    have h3 : (decide ((0 : Int) ≤ (i : Int)) && decide ((i : Int) < nI (rowLen 1 b))) = true := by simp [rowLen_one]; omega
    have h4 : IntKind.i64.wrap ((i : Int) + 1) = ((i + 1 : Nat) : Int) := wrapI (by omega) (by omega)
    rw [h2, h3, h1]
    simp only [h4, cond_true, mulE_one, Int.toNat_natCast]
    rw [ih (i + 1) (by omega) f (by omega), drop_getD (show i < a.length by omega), drop_getD (show i < b.length by omega)]
    by_cases hx : a.getD i 0 = b.getD i 0
    · rw [hx]; simp
    · have : (a.getD i 0 != b.getD i 0) = true := by simpa using hx
      rw [this]
      simp only [cond_true, List.cons.injEq, hx, false_and, decide_false]

def I20 : (R : Type) → List DV → (List DV → Option R) → Option R := fun _ ds k => match ds with
  | [.lst .u8 1 a, .lst .u8 1 b] => cond (Nat.ble a.length lim) (k [.v (.one (.bool (decide (a = b))))]) none
  | _ => none

theorem c20 : Contract Try.prog 20 { sig := S20, impl := I20 } := by
  refine Contract.refine fun R ds k r h => ?_
  unfold I20 at h
  split at h
  · rename_i a b
    refine ⟨_, f20_contract (a.length + 1) ctxOk_nil, ?_⟩
    rw [f20_raw_eq]
    cases hb : Nat.ble a.length lim with
    | true =>
      rw [hb] at h
      have hb := Nat.le_of_ble_eq_true hb
      unfold f20_raw
      by_cases hl : a.length = b.length
      · rw [show (nI (rowLen 1 a) != nI (rowLen 1 b)) = false by simp [rowLen_one, hl]]
        have := same_loop (N := a.length + 1) (fun y => k [DV.v (SV.one (At.bool y))]) a b hl hb a.length 0 (by omega) (a.length + 1) (by omega)
        exact this.trans h
      · rw [show (nI (rowLen 1 a) != nI (rowLen 1 b)) = true by simpa [rowLen_one, nI, Int.ofNat_inj] using hl]
        rw [show decide (a = b) = false by simp; intro e; exact hl (by rw [e])] at h
        exact h
    | false => rw [hb] at h; cases h
  · exact (Option.some_ne_none _ h.symm).elim

/-! ### Stream -/

/-- what lies upon the byte at i -/
def maskAt (key : List Int) (ctr : Nat) (nonce : List Int) (i : Nat) : Int := (blockL key ((ctr + i / 64 : Nat) : Int) nonce).getD (i % 64) 0

def maskL (f : Nat → Int) (b : List Int) : List Int := b.mapIdx fun i x => xorI .u8 x (f i)

/-- the first so many are done -/
def upTo (f : Nat → Int) (b : List Int) (n : Nat) : List Int := b.mapIdx fun i x => if i < n then xorI .u8 x (f i) else x

theorem upTo_zero (f : Nat → Int) (b : List Int) : upTo f b 0 = b := by
  unfold upTo
  apply List.ext_getElem?
  intro i
  simp

theorem upTo_all (f : Nat → Int) (b : List Int) : upTo f b b.length = maskL f b := by
  unfold upTo maskL
  apply List.ext_getElem?
  intro i
  simp only [List.getElem?_mapIdx]
  cases h : b[i]? with
  | none => rfl
  | some x =>
    have := (List.getElem?_eq_some_iff.1 h).1
    simp [this]

theorem upTo_length (f : Nat → Int) (b : List Int) (n : Nat) : (upTo f b n).length = b.length := by simp [upTo]

theorem upTo_getD (f : Nat → Int) (b : List Int) (n i : Nat) (h : n ≤ i) (hi : i < b.length) : (upTo f b n).getD i 0 = b.getD i 0 := by
  rw [List.getD_eq_getElem?_getD, List.getD_eq_getElem?_getD]
  unfold upTo
  rw [List.getElem?_mapIdx, List.getElem?_eq_getElem hi]
  simp; intro h'; omega

theorem upTo_set (f : Nat → Int) (b : List Int) (n : Nat) (hi : n < b.length) : (upTo f b n).set n (xorI .u8 (b.getD n 0) (f n)) = upTo f b (n + 1) := by
  apply List.ext_getElem?
  intro i
  rw [List.getElem?_set, upTo_length]
  unfold upTo
  rw [List.getElem?_mapIdx, List.getElem?_mapIdx]
  by_cases e : n = i
  · subst e
    rw [if_pos rfl, if_pos hi, List.getElem?_eq_getElem hi, List.getD_eq_getElem?_getD, List.getElem?_eq_getElem hi]
    simp
  · rw [if_neg e]
    cases h : b[i]? with
    | none => rfl
    | some x =>
      simp only [Option.map_some]
      by_cases h1 : i < n
      · rw [if_pos h1, if_pos (by omega)]
      · rw [if_neg h1, if_neg (by omega)]

theorem minI_nat (a b : Nat) : minI (a : Int) (b : Int) = ((min a b : Nat) : Int) := by
  unfold minI
  split <;> omega

theorem xor_loop {R : Type} {N : Nat} (k1 : Bool → Int → Int → Int → List Int → List Int → List Int → List Int → Option R) (f : Nat → Int) (b : List Int) (hb : b.length ≤ lim) (x1 : Int) (at_ : Nat) (hat : at_ ≤ b.length) (x4 x5 blk : List Int)
    (hf : ∀ j, at_ ≤ j → j < at_ + 64 → f j = blk.getD (j - at_) 0) :
    ∀ (m i : Nat), at_ ≤ i → i + m = min (at_ + 64) b.length → ∀ fuel, m < fuel → f16_2_lp N k1 fuel x1 (at_ : Int) (i : Int) x4 x5 blk (upTo f b i) = k1 false x1 (at_ : Int) ((min (at_ + 64) b.length : Nat) : Int) x4 x5 blk (upTo f b (min (at_ + 64) b.length)) := by
  have hb' : b.length ≤ 1099511627776 := hb
  intro m
  induction m with
  | zero =>
    intro i hai h fuel hfu
    obtain ⟨g, rfl⟩ : ∃ g, fuel = g + 1 := ⟨fuel - 1, by omega⟩
    have : i = min (at_ + 64) b.length := by omega
    subst this
    show f16_2_st N (f16_2_lp N k1 g) k1 _ _ _ _ _ _ _ = _
    unfold f16_2_st
    simp only [rowLen_one, upTo_length]
    rw [wrapI (show (at_ : Int) + 64 = ((at_ + 64 : Nat) : Int) by omega) (by omega), minI_nat]
    rw [show decide (((min (at_ + 64) b.length : Nat) : Int) < ((min (at_ + 64) b.length : Nat) : Int)) = false by simp]
    rfl
  | succ m ih =>
    intro i hai h fuel hfu
    obtain ⟨g, rfl⟩ : ∃ g, fuel = g + 1 := ⟨fuel - 1, by omega⟩
    show f16_2_st N (f16_2_lp N k1 g) k1 _ _ _ _ _ _ _ = _
    unfold f16_2_st
    simp only [rowLen_one, upTo_length]
    rw [wrapI (show (at_ : Int) + 64 = ((at_ + 64 : Nat) : Int) by omega) (by omega), minI_nat]
    have h0 : decide ((i : Int) < ((min (at_ + 64) b.length : Nat) : Int)) = true := by simp; omega
    have h1 : (decide ((0 : Int) ≤ (i : Int)) && decide ((i : Int) < nI b.length)) = true := by simp; omega
    have h2 : IntKind.i64.wrap ((i : Int) - (at_ : Int)) = ((i - at_ : Nat) : Int) := wrapI (by omega) (by omega)
    have h3 : (decide ((0 : Int) ≤ ((i - at_ : Nat) : Int)) && decide (((i - at_ : Nat) : Int) < 64)) = true := by simp; omega
    have h4 : IntKind.i64.wrap ((i : Int) + 1) = ((i + 1 : Nat) : Int) := wrapI (by omega) (by omega)
    rw [h0, h1, h2, h3, h4]
    simp only [cond_true, mulE_one, Int.toNat_natCast]
    rw [upTo_getD _ _ _ _ (Nat.le_refl _) (by omega), ← hf i hai (by omega), upTo_set _ _ _ (by omega)]
    exact ih (i + 1) (by omega) (by omega) g (by omega)

theorem stream_loop {R : Type} {N : Nat} (k1 : Bool → Int → Int → List Int → List Int → List Int → Option R) (key nonce : List Int) (ctr : Nat) (b : List Int) (hb : b.length ≤ lim) (hc : ctr + (b.length + 63) / 64 ≤ 4294967296) (hN : 65 ≤ N) :
    ∀ (m q : Nat), (b.length + 63) / 64 ≤ q + m → q ≤ (b.length + 63) / 64 → ∀ fuel, m < fuel → ∃ e : Int, f16_0_lp N k1 fuel (ctr : Int) ((64 * q : Nat) : Int) key nonce (upTo (maskAt key ctr nonce) b (64 * q)) = k1 false (ctr : Int) e key nonce (maskL (maskAt key ctr nonce) b) := by
  have hb' : b.length ≤ 1099511627776 := hb
  intro m
  induction m with
  | zero =>
    intro q h hq fuel hfu
    obtain ⟨g, rfl⟩ : ∃ g, fuel = g + 1 := ⟨fuel - 1, by omega⟩
    refine ⟨((64 * q : Nat) : Int), ?_⟩
    show f16_0_st N (f16_0_lp N k1 g) k1 _ _ _ _ _ = _
    unfold f16_0_st
    simp only [rowLen_one, upTo_length]
    rw [show decide (((64 * q : Nat) : Int) < nI b.length) = false by simp [nI]; omega]
    simp only [cond_false]
    rw [show upTo (maskAt key ctr nonce) b (64 * q) = maskL (maskAt key ctr nonce) b by
      rw [← upTo_all]
      apply List.ext_getElem?
      intro i
      unfold upTo
      rw [List.getElem?_mapIdx, List.getElem?_mapIdx]
      cases hx : b[i]? with
      | none => rfl
      | some x =>
        have := (List.getElem?_eq_some_iff.1 hx).1
        simp only [Option.map_some]
        rw [if_pos (by omega), if_pos this]]
  | succ m ih =>
    intro q h hq fuel hfu
    obtain ⟨g, rfl⟩ : ∃ g, fuel = g + 1 := ⟨fuel - 1, by omega⟩
    by_cases hlt : 64 * q < b.length
    · show ∃ e, f16_0_st N (f16_0_lp N k1 g) k1 _ _ _ _ _ = _
      unfold f16_0_st
      simp only [rowLen_one, upTo_length]
      rw [show decide (((64 * q : Nat) : Int) < nI b.length) = true by simp [nI]; omega]
      have e1 : (((64 * q : Nat) : Int)).tdiv 64 = ((q : Nat) : Int) := by
        rw [show (64 : Int) = ((64 : Nat) : Int) from rfl, ← Int.ofNat_tdiv]; congr 1; omega
      rw [e1, wrapI (n := q) rfl (by omega), wrapU32 (n := q) (by omega)]
      have e2 : IntKind.u32.wrap ((ctr : Int) + (q : Int)) = ((ctr + q : Nat) : Int) := by
        rw [show (ctr : Int) + (q : Int) = ((ctr + q : Nat) : Int) by omega]; exact wrapU32 (by omega)
      rw [e2]
      simp only [cond_true]
      have hx := xor_loop (N := N) (R := R) (fun _ w2 w3 w4 w5 w6 w7 w8 => f16_0_lp N k1 g w2 (IntKind.i64.wrap (w3 + 64)) w5 w6 w8) (maskAt key ctr nonce) b hb (ctr : Int) (64 * q) (by omega) key nonce (blockL key ((ctr + q : Nat) : Int) nonce)
        (fun j h1 h2 => by
          unfold maskAt
          rw [show j / 64 = q by omega, show j % 64 = j - 64 * q by omega])
        (min (64 * q + 64) b.length - 64 * q) (64 * q) (Nat.le_refl _) (by omega) N (by omega)
      obtain ⟨e, he⟩ := ih (q + 1) (by omega) (by omega) g (by omega)
      refine ⟨e, hx.trans ?_⟩
      rw [wrapI (show ((64 * q : Nat) : Int) + 64 = ((64 * (q + 1) : Nat) : Int) by omega) (by omega), ← he]
      congr 1
      -- what is done up to the end
      apply List.ext_getElem?
      intro i
      unfold upTo
      rw [List.getElem?_mapIdx, List.getElem?_mapIdx]
      cases hx : b[i]? with
      | none => rfl
      | some x =>
        have := (List.getElem?_eq_some_iff.1 hx).1
        simp only [Option.map_some]
        by_cases h1 : i < 64 * (q + 1)
        · rw [if_pos h1, if_pos (by omega)]
        · rw [if_neg h1, if_neg (by omega)]
    · exact ⟨((64 * q : Nat) : Int), by
        show f16_0_st N (f16_0_lp N k1 g) k1 _ _ _ _ _ = _
        unfold f16_0_st
        simp only [rowLen_one, upTo_length]
        rw [show decide (((64 * q : Nat) : Int) < nI b.length) = false by simp [nI]; omega]
        simp only [cond_false]
        rw [show upTo (maskAt key ctr nonce) b (64 * q) = maskL (maskAt key ctr nonce) b by
          rw [← upTo_all]
          apply List.ext_getElem?
          intro i
          unfold upTo
          rw [List.getElem?_mapIdx, List.getElem?_mapIdx]
          cases hx : b[i]? with
          | none => rfl
          | some x =>
            have := (List.getElem?_eq_some_iff.1 hx).1
            simp only [Option.map_some]
            rw [if_pos (by omega), if_pos this]]⟩

/-- the stream upon bytes -/
def streamL (key : List Int) (ctr : Nat) (nonce b : List Int) : List Int := maskL (maskAt key ctr nonce) b

def tooFar (ctr : Nat) (n : Nat) : Bool := decide (4294967296 < ctr + (n + 63) / 64)

def I16 : (R : Type) → List DV → (List DV → Option R) → Option R := fun _ ds k => match ds with
  | [.v (.one (.ints .u8 32 key)), .v (.one (.int .u32 ctr)), .v (.one (.ints .u8 12 nonce)), .lst .u8 1 b] =>
    cond (decide (0 ≤ ctr) && (decide (ctr < 4294967296) && Nat.ble b.length lim))
      (cond (tooFar ctr.toNat b.length) (k [.lst .u8 1 [], .v (.one (.int .i64 122))]) (k [.lst .u8 1 (streamL key ctr.toNat nonce b), .v (.one (.int .i64 0))])) none
  | _ => none

theorem c16 : Contract Try.prog 16 { sig := S16, impl := I16 } := by
  refine Contract.refine fun R ds k r h => ?_
  unfold I16 at h
  split at h
  · rename_i key ctr nonce b
    refine ⟨_, f16_contract (b.length + 65) G16_ok, ?_⟩
    rw [f16_raw_eq]
    cases hb : (decide (0 ≤ ctr) && (decide (ctr < 4294967296) && Nat.ble b.length lim)) with
    | false => rw [hb] at h; cases h
    | true =>
      rw [hb] at h
      simp only [Bool.and_eq_true, decide_eq_true_eq] at hb
      obtain ⟨h1, h2, h3⟩ := hb
      have h3 := Nat.le_of_ble_eq_true h3
      have h3' : b.length ≤ 1099511627776 := h3
      obtain ⟨c, rfl⟩ : ∃ c : Nat, ctr = c := ⟨ctr.toNat, by omega⟩
      simp only [Int.toNat_natCast, cond_true] at h
      unfold f16_raw
      have e1 : IntKind.u64.wrap (c : Int) = ((c : Nat) : Int) := wrapU64 (by omega)
      have e2 : IntKind.i64.wrap (nI (rowLen 1 b) + 63) = ((b.length + 63 : Nat) : Int) := wrapI (by simp [rowLen_one]) (by omega)
      have e3 : IntKind.u64.wrap ((b.length + 63 : Nat) : Int) = ((b.length + 63 : Nat) : Int) := wrapU64 (by omega)
      have e4 : (((b.length + 63 : Nat) : Int)).tdiv 64 = (((b.length + 63) / 64 : Nat) : Int) := (Int.ofNat_tdiv (b.length + 63) 64).symm
      have e5 : IntKind.u64.wrap (((b.length + 63) / 64 : Nat) : Int) = (((b.length + 63) / 64 : Nat) : Int) := wrapU64 (by omega)
      have e6 : IntKind.u64.wrap ((c : Int) + (((b.length + 63) / 64 : Nat) : Int)) = ((c + (b.length + 63) / 64 : Nat) : Int) := by
        rw [show (c : Int) + (((b.length + 63) / 64 : Nat) : Int) = ((c + (b.length + 63) / 64 : Nat) : Int) by omega]; exact wrapU64 (by omega)
      simp only [e1, e2, e3, e4, e5, e6]
      cases ht : tooFar c b.length with
      | true =>
        rw [ht] at h
        rw [show decide (((c + (b.length + 63) / 64 : Nat) : Int) > 4294967296) = true by simp [tooFar] at ht ⊢; omega]
        exact h
      | false =>
        rw [ht] at h
        have hc : c + (b.length + 63) / 64 ≤ 4294967296 := by simp [tooFar] at ht; exact ht
        rw [show decide (((c + (b.length + 63) / 64 : Nat) : Int) > 4294967296) = false by simp; omega]
        rw [show ((rowLen 1 b * 1).ble big48 && (rowLen 1 b).ble big48) = true by simp [rowLen_one, big48]; omega]
        simp only [cond_true, cond_false] at h ⊢
        obtain ⟨e, he⟩ := stream_loop (N := b.length + 65) (fun _ _ _ _ _ y6 => k [DV.lst IntKind.u8 1 y6, DV.v (SV.one (At.int IntKind.i64 0))]) key nonce c b h3 hc (by omega) ((b.length + 63) / 64) 0 (by omega) (by omega) (b.length + 65) (by omega)
        rw [Nat.mul_zero, upTo_zero] at he
        exact he.trans h
  · exact (Option.some_ne_none _ h.symm).elim

end Go.Proofs.Ytiaddnmloonhgaa

/- The tag of bytes. -/
namespace Go.Proofs.Ytiaddnmloonhgaa
open Go Go.Eng
set_option maxRecDepth 100000

def setAnd (x : List Int) (i : Nat) (m : Int) : List Int := x.set i (andI .u8 (x.getD i 0) m)
def clampA (x : List Int) : List Int := setAnd (setAnd (setAnd (setAnd x 3 15) 7 15) 11 15) 15 15
def clampB (x : List Int) : List Int := setAnd (setAnd (setAnd x 4 252) 8 252) 12 252

theorem clampA_loop {R : Type} (N n : Nat) (k1 : Bool → Int → Int → List Int → List Int → List Int → List Int → List Int → Option R) (x3 x4 x5 x6 : List Int) :
    f24_0_lp N k1 (n + 5) 4 0 x3 x4 x5 x6 [3, 7, 11, 15] = k1 false 4 4 x3 x4 x5 (clampA x6) [3, 7, 11, 15] := by kernel_rfl

theorem clampB_loop {R : Type} (N n : Nat) (k1 : Bool → Int → Int → List Int → List Int → List Int → List Int → List Int → Option R) (x3 x4 x5 x6 : List Int) :
    f24_2_lp N k1 (n + 4) 3 0 x3 x4 x5 x6 [4, 8, 12] = k1 false 3 3 x3 x4 x5 (clampB x6) [4, 8, 12] := by kernel_rfl

def setAdd (s p : List Int) (i : Nat) : List Int := s.set i (IntKind.u64.wrap (s.getD i 0 + p.getD i 0))
def addL (s p : List Int) : List Int := setAdd (setAdd (setAdd (setAdd (setAdd s p 0) p 1) p 2) p 3) p 4

theorem add_loop {R : Type} (N n : Nat) (k1 : Bool → Int → List Int → Int → List Int → List Int → List Int → List Int → List Int → Option R) (x1 : Int) (x2 x4 x5 x6 x7 x8 : List Int) :
    f24_6_lp N k1 (n + 6) x1 x2 0 x4 x5 x6 x7 x8 = k1 false x1 x2 5 x4 x5 x6 x7 (addL x8 x2) := by kernel_rfl

/-- a piece of at most 16 bytes, with the one behind it -/
def pieceL (c : List Int) : List Int := (c ++ (List.replicate 17 0).drop c.length).set c.length 1

def macGo (r b : List Int) : Nat → Nat → List Int → List Int
  | 0, _, s => s
  | m + 1, i, s => macGo r b m (i + 16) (timesL (addL s (limbsL (pieceL ((b.drop i).take 16)))) r)

theorem mac_loop {R : Type} {N : Nat} (k1 : Bool → Int → List Int → List Int → List Int → List Int → List Int → Option R) (b x3 x4 r : List Int) (hb : b.length ≤ lim) (hN : 6 ≤ N) :
    ∀ (m q : Nat) (s : List Int), q + m = (b.length + 15) / 16 → ∀ fuel, m < fuel → ∃ e : Int, f24_4_lp N k1 fuel ((16 * q : Nat) : Int) b x3 x4 r s = k1 false e b x3 x4 r (macGo r b m (16 * q) s) := by
  have hb' : b.length ≤ 1099511627776 := hb
  intro m
  induction m with
  | zero =>
    intro q s h fuel hfu
    obtain ⟨g, rfl⟩ : ∃ g, fuel = g + 1 := ⟨fuel - 1, by omega⟩
    refine ⟨((16 * q : Nat) : Int), ?_⟩
    show f24_4_st N (f24_4_lp N k1 g) k1 _ _ _ _ _ _ = _
    unfold f24_4_st
    rw [show decide (((16 * q : Nat) : Int) < nI (rowLen 1 b)) = false from decide_eq_false (by show ¬ ((16 * q : Nat) : Int) < (b.length : Int); omega)]
    rfl
  | succ m ih =>
    intro q s h fuel hfu
    obtain ⟨g, rfl⟩ : ∃ g, fuel = g + 1 := ⟨fuel - 1, by omega⟩
    show ∃ e, f24_4_st N (f24_4_lp N k1 g) k1 _ _ _ _ _ _ = _
    unfold f24_4_st
    have hlt : 16 * q < b.length := by omega
    rw [show decide (((16 * q : Nat) : Int) < nI (rowLen 1 b)) = true from decide_eq_true (by show ((16 * q : Nat) : Int) < (b.length : Int); omega)]
    have e0 : Go.Eng.sub b (plusO .z 1 (some ((16 * q : Nat) : Int))) (mulE (subN (hiNat none (rowLen 1 b)) (some ((16 * q : Nat) : Int))) 1) = b.drop (16 * q) := by
      show (b.drop (16 * q)).take (b.length - 16 * q) = _
      rw [List.take_of_length_le]; simp
    rw [show loOk (some ((16 * q : Nat) : Int)) (hiInt none (rowLen 1 b)) = true from loOk_nat (by simp [hiInt, rowLen_one]; omega)]
    rw [e0]
    simp only [cond_true]
    have e1 : min (rowLen 1 (b.drop (16 * q))) (subN (hiNat (some 16) 17) none) = ((b.drop (16 * q)).take 16).length := by
      rw [List.length_take, Nat.min_comm, rowLen_one]; rfl
    rw [e1]
    have hl16 : ((b.drop (16 * q)).take 16).length ≤ 16 := List.length_take_le _ _
    have e2 : List.take (mulE ((b.drop (16 * q)).take 16).length 1) (b.drop (16 * q)) = (b.drop (16 * q)).take 16 := by
      rw [mulE_one, List.length_take, List.take_eq_take_iff]; omega
    rw [show (decide ((0 : Int) ≤ nI ((b.drop (16 * q)).take 16).length) && decide (nI ((b.drop (16 * q)).take 16).length < 17)) = true by simp [nI]; omega]
    rw [e2, cond_true]
    have e3 : (splice (List.replicate 17 0) (plusO .z 1 none) ((b.drop (16 * q)).take 16)).set (mulE (nI ((b.drop (16 * q)).take 16).length).toNat 1) 1 = pieceL ((b.drop (16 * q)).take 16) := by
      rw [mulE_one, nI, Int.toNat_natCast]; rfl
    rw [e3]
    obtain ⟨e, he⟩ := ih (q + 1) (timesL (addL s (limbsL (pieceL ((b.drop (16 * q)).take 16)))) r) (by omega) g (by omega)
    refine ⟨e, ?_⟩
    obtain ⟨M, rfl⟩ : ∃ M, N = M + 6 := ⟨N - 6, by omega⟩
    refine (add_loop _ _ _ _ _ _ _ _ _ _).trans ?_
    rw [wrapI (show ((16 * q : Nat) : Int) + 16 = ((16 * (q + 1) : Nat) : Int) by omega) (by omega), he]
    rfl

/-! ### the digits -/

def digRun (key b' w : List Int) : Option (List Int) := f24_8_lp 20 (fun _ _ _ _ _ _ y7 => some y7) 20 0 0 key b' w (List.replicate 16 0)

theorem dig_some (key b' w : List Int) : (digRun key b' w).isSome = true := by kernel_rfl

theorem dig_match {R : Type} (M : Nat) (k1 : List Int → Option R) (key b' w : List Int) : f24_8_lp (M + 40) (fun _ _ _ _ _ _ y7 => k1 y7) (M + 40) 0 0 key b' w (List.replicate 16 0) = match digRun key b' w with | some o => k1 o | none => none := by kernel_rfl

def digL (key b' w : List Int) : List Int := (digRun key b' w).getD []

theorem dig_loop {R : Type} (M : Nat) (k1 : List Int → Option R) (key b' w : List Int) : f24_8_lp (M + 40) (fun _ _ _ _ _ _ y7 => k1 y7) (M + 40) 0 0 key b' w (List.replicate 16 0) = k1 (digL key b' w) := by
  rw [dig_match]
  have := dig_some key b' w
  unfold digL
  cases h : digRun key b' w with
  | none => rw [h] at this; cases this
  | some o => rfl

def halfL (key : List Int) : List Int :=
  limbsL (clampB (clampA (Go.Eng.splice (List.replicate 17 0) (plusO .z 1 none) (List.take (mulE (min (rowLen 1 (Go.Eng.sub key (plusO .z 1 none) (mulE (subN (hiNat (some 16) 32) none) 1))) (subN (hiNat none 17) none)) 1) (Go.Eng.sub key (plusO .z 1 none) (mulE (subN (hiNat (some 16) 32) none) 1))))))

def macL (key b : List Int) : List Int :=
  digL key (List.replicate 16 0) (wholeL (macGo (halfL key) b ((b.length + 15) / 16) 0 (List.replicate 5 0)))

theorem f24_spec {R : Type} (key b : List Int) (k : List DV → Option R) (hb : b.length ≤ lim) : f24_raw (b.length + 40) key b k = k [.v (.one (.ints .u8 16 (macL key b)))] := by
  unfold f24_raw
  refine (clampA_loop (b.length + 40) (b.length + 35) _ b key (List.replicate 16 0) _).trans ?_
  refine (clampB_loop (b.length + 40) (b.length + 36) _ b key (List.replicate 16 0) _).trans ?_
  obtain ⟨e, he⟩ := mac_loop (R := R) (N := b.length + 40) (fun w12_1 w12_2 w12_3 w12_4 w12_5 w12_6 w12_7 => f24_8_lp (b.length + 40) (fun w13_1 w13_2 w13_3 w13_4 w13_5 w13_6 w13_7 => k [DV.v (SV.one (At.ints IntKind.u8 16 w13_7))]) (b.length + 40) 0 0 w12_4 w12_5 (wholeL w12_7) (List.replicate 16 0)) b key (List.replicate 16 0) (halfL key) hb (by omega) ((b.length + 15) / 16) 0 (List.replicate 5 0) (by omega) (b.length + 40) (by omega)
  refine he.trans ?_
  exact dig_loop b.length (fun o => k [.v (.one (.ints .u8 16 o))]) _ _ _

def I24 : (R : Type) → List DV → (List DV → Option R) → Option R := fun _ ds k => match ds with
  | [.v (.one (.ints .u8 32 key)), .lst .u8 1 b] => cond (Nat.ble b.length lim) (k [.v (.one (.ints .u8 16 (macL key b)))]) none
  | _ => none

theorem c24 : Contract Try.prog 24 { sig := S24, impl := I24 } := by
  refine Contract.refine fun R ds k r h => ?_
  unfold I24 at h
  split at h
  · rename_i key b
    refine ⟨_, f24_contract (b.length + 40) G24_ok, ?_⟩
    rw [f24_raw_eq]
    cases hb : Nat.ble b.length lim with
    | true => rw [hb] at h; rw [f24_spec key b k (Nat.le_of_ble_eq_true hb)]; exact h
    | false => rw [hb] at h; cases h
  · exact (Option.some_ne_none _ h.symm).elim

def G67 : Ctx := [(18, { sig := S18, impl := I18 }), (24, { sig := S24, impl := I24 }), (44, { sig := S44, impl := I44 }), (96, { sig := S96, impl := I96 })]
theorem G67_ok : CtxOk Try.prog G67 := ctxOk_cons ok18 rfl c18 (ctxOk_cons ok24 rfl c24 (ctxOk_cons ok44 rfl c44 (ctxOk_cons ok96 rfl c96 ctxOk_nil)))

end Go.Proofs.Ytiaddnmloonhgaa

/- What rime/seal.tag comes to. MADE BY PROGRAM (wip/tools/mkfn.py, EngGen.lean). -/
namespace Go.Proofs.Ytiaddnmloonhgaa
open Go Go.Eng
set_option maxRecDepth 100000
set_option linter.unusedVariables false

def f67_raw {R : Type} (N : Nat) (key : List Int) (nonce : List Int) (a : List Int) (b : List Int) (k : List DV → Option R) : Option R :=
 bif a.length.ble Go.Proofs.Ytiaddnmloonhgaa.lim then
 bif b.length.ble Go.Proofs.Ytiaddnmloonhgaa.lim then
 bif ((2 * (Go.Eng.rowLen 1 (Go.Proofs.Ytiaddnmloonhgaa.padL a) + Go.Eng.rowLen 1 (Go.Proofs.Ytiaddnmloonhgaa.padL b)) + 192) * 1).ble Go.Eng.big48 && (Go.Eng.rowLen 1 (Go.Proofs.Ytiaddnmloonhgaa.padL a) + Go.Eng.rowLen 1 (Go.Proofs.Ytiaddnmloonhgaa.padL b)).ble Go.Eng.big48 then
 let v0 : List Int := Go.Proofs.Ytiaddnmloonhgaa.padL a ++ Go.Proofs.Ytiaddnmloonhgaa.padL b;
 let v1 : Int := Go.IntKind.u64.wrap (Go.Eng.nI (Go.Eng.rowLen 1 a));
 bif ((2 * (Go.Eng.rowLen 1 v0 + Go.Eng.rowLen 1 (Go.Proofs.Ytiaddnmloonhgaa.bytesL v1 (Int.toNat 8))) + 192) * 1).ble Go.Eng.big48 && (Go.Eng.rowLen 1 v0 + Go.Eng.rowLen 1 (Go.Proofs.Ytiaddnmloonhgaa.bytesL v1 (Int.toNat 8))).ble Go.Eng.big48 then
 let v2 : List Int := v0 ++ Go.Proofs.Ytiaddnmloonhgaa.bytesL v1 (Int.toNat 8);
 let v3 : Int := Go.IntKind.u64.wrap (Go.Eng.nI (Go.Eng.rowLen 1 b));
 bif ((2 * (Go.Eng.rowLen 1 v2 + Go.Eng.rowLen 1 (Go.Proofs.Ytiaddnmloonhgaa.bytesL v3 (Int.toNat 8))) + 192) * 1).ble Go.Eng.big48 && (Go.Eng.rowLen 1 v2 + Go.Eng.rowLen 1 (Go.Proofs.Ytiaddnmloonhgaa.bytesL v3 (Int.toNat 8))).ble Go.Eng.big48 then
 let v4 : List Int := v2 ++ Go.Proofs.Ytiaddnmloonhgaa.bytesL v3 (Int.toNat 8);
 bif v4.length.ble Go.Proofs.Ytiaddnmloonhgaa.lim then k [Go.Eng.DV.v (Go.Eng.SV.one (Go.Eng.At.ints Go.IntKind.u8 16 (Go.Proofs.Ytiaddnmloonhgaa.macL (List.take 32 (List.drop 0 (Go.Proofs.Ytiaddnmloonhgaa.blockL key 0 nonce))) v4)))] else Option.none
 else Option.none
 else Option.none
 else Option.none
 else Option.none
else Option.none


noncomputable def E67 (N : Nat) : Env := { Θ := Th, Γ := G67, K := K67, ν := N67, fuel := 0, lp := [] }


theorem f67_contract (N : Nat) (hΓ : CtxOk Try.prog G67) : Contract Try.prog 67 { sig := S67, impl := fun _ ds k => call (E67 N) S67 39 B67 R67 ds k } :=
  call_contract (E := E67 N) thOk hΓ mixed ok67.look ok67.body ok67.n ok67.rv ok67.name rfl (by decide) (loopsOk_of (l := []) (by kernel_rfl) trivial)
theorem f67_raw_eq {R : Type} (N : Nat) (key : List Int) (nonce : List Int) (a : List Int) (b : List Int) (k : List DV → Option R) : call (E67 N) S67 39 B67 R67 [.v (.one (.ints .u8 32 key)), .v (.one (.ints .u8 12 nonce)), .lst .u8 1 a, .lst .u8 1 b] k = f67_raw N key nonce a b k := by kernel_rfl
end Go.Proofs.Ytiaddnmloonhgaa

/- The tag of what is open and what is sealed. -/
namespace Go.Proofs.Ytiaddnmloonhgaa
open Go Go.Eng
set_option maxRecDepth 100000

def lim4 : Nat := 274877906944

theorem bytesGo_length (n : Int) : ∀ (m i : Nat), (bytesGo n m i).length = m
  | 0, _ => rfl
  | m + 1, i => by simp [bytesGo, bytesGo_length n m (i + 1)]

theorem bytesL_length (n : Int) (m : Nat) : (bytesL n m).length = m := bytesGo_length n m 0

theorem padL_length (a : List Int) : (padL a).length = a.length + padN a.length := by simp [padL]

theorem padN_lt (n : Nat) : padN n < 16 := Nat.mod_lt _ (by omega)

def wholeText (a b : List Int) : List Int := padL a ++ padL b ++ bytesL (a.length : Int) 8 ++ bytesL (b.length : Int) 8

def tagL (key nonce a b : List Int) : List Int := macL ((blockL key 0 nonce).take 32) (wholeText a b)

def I67 : (R : Type) → List DV → (List DV → Option R) → Option R := fun _ ds k => match ds with
  | [.v (.one (.ints .u8 32 key)), .v (.one (.ints .u8 12 nonce)), .lst .u8 1 a, .lst .u8 1 b] =>
    cond (Nat.ble a.length lim4 && Nat.ble b.length lim4) (k [.v (.one (.ints .u8 16 (tagL key nonce a b)))]) none
  | _ => none

theorem c67 : Contract Try.prog 67 { sig := S67, impl := I67 } := by
  refine Contract.refine fun R ds k r h => ⟨_, f67_contract 0 G67_ok, ?_⟩
  unfold I67 at h
  split at h
  · rename_i key nonce a b
    rw [f67_raw_eq]
    cases hb : (Nat.ble a.length lim4 && Nat.ble b.length lim4) with
    | false => rw [hb] at h; cases h
    | true =>
      rw [hb] at h
      simp only [Bool.and_eq_true] at hb
      have ha : a.length ≤ 274877906944 := Nat.le_of_ble_eq_true hb.1
      have hb : b.length ≤ 274877906944 := Nat.le_of_ble_eq_true hb.2
      have pa := padL_length a
      have pb := padL_length b
      have qa := padN_lt a.length
      have qb := padN_lt b.length
      unfold f67_raw
      have e1 : IntKind.u64.wrap (nI (rowLen 1 a)) = (a.length : Int) := wrapU64 (n := a.length) (by omega)
      have e2 : IntKind.u64.wrap (nI (rowLen 1 b)) = (b.length : Int) := wrapU64 (n := b.length) (by omega)
      simp only [e1, e2]
      rw [show a.length.ble lim = true by simp [lim]; omega, show b.length.ble lim = true by simp [lim]; omega]
      rw [show (((2 * (rowLen 1 (padL a) + rowLen 1 (padL b)) + 192) * 1).ble big48 && (rowLen 1 (padL a) + rowLen 1 (padL b)).ble big48) = true by
        simp [rowLen_one, big48, pa, pb]; omega]
      rw [show (((2 * (rowLen 1 (padL a ++ padL b) + rowLen 1 (bytesL (a.length : Int) (Int.toNat 8))) + 192) * 1).ble big48 && (rowLen 1 (padL a ++ padL b) + rowLen 1 (bytesL (a.length : Int) (Int.toNat 8))).ble big48) = true by
        simp [rowLen_one, big48, pa, pb, bytesL_length]; omega]
      rw [show (((2 * (rowLen 1 (padL a ++ padL b ++ bytesL (a.length : Int) (Int.toNat 8)) + rowLen 1 (bytesL (b.length : Int) (Int.toNat 8))) + 192) * 1).ble big48 && (rowLen 1 (padL a ++ padL b ++ bytesL (a.length : Int) (Int.toNat 8)) + rowLen 1 (bytesL (b.length : Int) (Int.toNat 8))).ble big48) = true by
        simp [rowLen_one, big48, pa, pb, bytesL_length]; omega]
      rw [show (padL a ++ padL b ++ bytesL (a.length : Int) (Int.toNat 8) ++ bytesL (b.length : Int) (Int.toNat 8)).length.ble lim = true by
        simp [lim, pa, pb, bytesL_length]; omega]
      exact h
  · cases h

def G28 : Ctx := [(16, { sig := S16, impl := I16 }), (67, { sig := S67, impl := I67 })]
theorem G28_ok : CtxOk Try.prog G28 := ctxOk_cons ok16 rfl c16 (ctxOk_cons ok67 rfl c67 ctxOk_nil)

end Go.Proofs.Ytiaddnmloonhgaa

/- What rime/seal.Seal comes to. MADE BY PROGRAM (wip/tools/mkfn.py, EngGen.lean). -/
namespace Go.Proofs.Ytiaddnmloonhgaa
open Go Go.Eng
set_option maxRecDepth 100000
set_option linter.unusedVariables false

def f28_raw {R : Type} (N : Nat) (key : List Int) (nonce : List Int) (a : List Int) (b : List Int) (k : List DV → Option R) : Option R :=
 bif Decidable.decide (0 ≤ 1) && (Decidable.decide (1 < 4294967296) && b.length.ble Go.Proofs.Ytiaddnmloonhgaa.lim) then
 bif Go.Proofs.Ytiaddnmloonhgaa.tooFar (Int.toNat 1) b.length then
 bif a.length.ble Go.Proofs.Ytiaddnmloonhgaa.lim4 && ([] : List Int).length.ble Go.Proofs.Ytiaddnmloonhgaa.lim4 then
 let v0 : List Int := Go.Eng.sub (Go.Proofs.Ytiaddnmloonhgaa.tagL key nonce a []) (Go.Eng.plusO Go.Eng.Off.z 1 Option.none) (Go.Eng.mulE (Go.Eng.subN (Go.Eng.hiNat Option.none 16) Option.none) 1);
 let v1 : List Int := [] ++ v0;
 k [Go.Eng.DV.lst Go.IntKind.u8 1 v1]
 else Option.none
 else
 bif a.length.ble Go.Proofs.Ytiaddnmloonhgaa.lim4 && (Go.Proofs.Ytiaddnmloonhgaa.streamL key (Int.toNat 1) nonce b).length.ble Go.Proofs.Ytiaddnmloonhgaa.lim4 then
 let v2 : List Int := Go.Eng.sub (Go.Proofs.Ytiaddnmloonhgaa.tagL key nonce a (Go.Proofs.Ytiaddnmloonhgaa.streamL key (Int.toNat 1) nonce b)) (Go.Eng.plusO Go.Eng.Off.z 1 Option.none) (Go.Eng.mulE (Go.Eng.subN (Go.Eng.hiNat Option.none 16) Option.none) 1);
 bif ((2 * (Go.Eng.rowLen 1 (Go.Proofs.Ytiaddnmloonhgaa.streamL key (Int.toNat 1) nonce b) + Go.Eng.rowLen 1 v2) + 192) * 1).ble Go.Eng.big48 && (Go.Eng.rowLen 1 (Go.Proofs.Ytiaddnmloonhgaa.streamL key (Int.toNat 1) nonce b) + Go.Eng.rowLen 1 v2).ble Go.Eng.big48 then
 let v3 : List Int := Go.Proofs.Ytiaddnmloonhgaa.streamL key (Int.toNat 1) nonce b ++ v2;
 k [Go.Eng.DV.lst Go.IntKind.u8 1 v3]
 else Option.none
 else Option.none
else Option.none


noncomputable def E28 (N : Nat) : Env := { Θ := Th, Γ := G28, K := K28, ν := N28, fuel := 0, lp := [] }


theorem f28_contract (N : Nat) (hΓ : CtxOk Try.prog G28) : Contract Try.prog 28 { sig := S28, impl := fun _ ds k => call (E28 N) S28 27 B28 R28 ds k } :=
  call_contract (E := E28 N) thOk hΓ mixed ok28.look ok28.body ok28.n ok28.rv ok28.name rfl (by decide) (loopsOk_of (l := []) (by kernel_rfl) trivial)
theorem f28_raw_eq {R : Type} (N : Nat) (key : List Int) (nonce : List Int) (a : List Int) (b : List Int) (k : List DV → Option R) : call (E28 N) S28 27 B28 R28 [.v (.one (.ints .u8 32 key)), .v (.one (.ints .u8 12 nonce)), .lst .u8 1 a, .lst .u8 1 b] k = f28_raw N key nonce a b k := by kernel_rfl
end Go.Proofs.Ytiaddnmloonhgaa

/- What rime/seal.Open comes to. MADE BY PROGRAM (wip/tools/mkfn.py, EngGen.lean). -/
namespace Go.Proofs.Ytiaddnmloonhgaa
open Go Go.Eng
set_option maxRecDepth 100000
set_option linter.unusedVariables false

def f26_raw {R : Type} (N : Nat) (key : List Int) (nonce : List Int) (a : List Int) (b : List Int) (k : List DV → Option R) : Option R :=
 let v0 : Int := Go.IntKind.i64.wrap (Go.Eng.nI (Go.Eng.rowLen 1 b) - 16);
bif Decidable.decide (v0 < 0) then k [Go.Eng.DV.lst Go.IntKind.u8 1 [], Go.Eng.DV.v (Go.Eng.SV.one (Go.Eng.At.int Go.IntKind.i64 3))]
else
 bif Go.Eng.hiOk (Option.some v0) (Go.Eng.rowLen 1 b) then
 let v1 : List Int := Go.Eng.sub b (Go.Eng.plusO Go.Eng.Off.z 1 Option.none) (Go.Eng.mulE (Go.Eng.subN (Go.Eng.hiNat (Option.some v0) (Go.Eng.rowLen 1 b)) Option.none) 1);
 bif a.length.ble Go.Proofs.Ytiaddnmloonhgaa.lim4 && v1.length.ble Go.Proofs.Ytiaddnmloonhgaa.lim4 then bif Go.Eng.loOk (Option.some v0) (Go.Eng.hiInt Option.none (Go.Eng.rowLen 1 b)) then bif Nat.ble 1 16 && Nat.ble 16 (Go.Eng.subN (Go.Eng.hiNat Option.none (Go.Eng.rowLen 1 b)) (Option.some v0)) then bif !Decidable.decide (Go.Proofs.Ytiaddnmloonhgaa.tagL key nonce a v1 = List.take 16 (List.drop (Go.Eng.mulE v0.toNat 1) b)) then k [Go.Eng.DV.lst Go.IntKind.u8 1 [], Go.Eng.DV.v (Go.Eng.SV.one (Go.Eng.At.int Go.IntKind.i64 121))] else bif Go.Eng.hiOk (Option.some v0) (Go.Eng.rowLen 1 b) then bif Decidable.decide (0 ≤ 1) && (Decidable.decide (1 < 4294967296) && v1.length.ble Go.Proofs.Ytiaddnmloonhgaa.lim) then bif Go.Proofs.Ytiaddnmloonhgaa.tooFar (Int.toNat 1) v1.length then k [Go.Eng.DV.lst Go.IntKind.u8 1 [], Go.Eng.DV.v (Go.Eng.SV.one (Go.Eng.At.int Go.IntKind.i64 122))] else k [Go.Eng.DV.lst Go.IntKind.u8 1 (Go.Proofs.Ytiaddnmloonhgaa.streamL key (Int.toNat 1) nonce v1), Go.Eng.DV.v (Go.Eng.SV.one (Go.Eng.At.int Go.IntKind.i64 0))] else Option.none else Option.none else Option.none else Option.none else Option.none
 else Option.none


noncomputable def E26 (N : Nat) : Env := { Θ := Th, Γ := G28, K := K26, ν := N26, fuel := 0, lp := [] }


theorem f26_contract (N : Nat) (hΓ : CtxOk Try.prog G28) : Contract Try.prog 26 { sig := S26, impl := fun _ ds k => call (E26 N) S26 37 B26 R26 ds k } :=
  call_contract (E := E26 N) thOk hΓ mixed ok26.look ok26.body ok26.n ok26.rv ok26.name rfl (by decide) (loopsOk_of (l := []) (by kernel_rfl) trivial)
theorem f26_raw_eq {R : Type} (N : Nat) (key : List Int) (nonce : List Int) (a : List Int) (b : List Int) (k : List DV → Option R) : call (E26 N) S26 37 B26 R26 [.v (.one (.ints .u8 32 key)), .v (.one (.ints .u8 12 nonce)), .lst .u8 1 a, .lst .u8 1 b] k = f26_raw N key nonce a b k := by kernel_rfl
end Go.Proofs.Ytiaddnmloonhgaa

/- What is sealed; what is opened. -/
namespace Go.Proofs.Ytiaddnmloonhgaa
open Go Go.Eng
set_option maxRecDepth 100000

def lim5 : Nat := 68719476736

theorem maskL_length (f : Nat → Int) (b : List Int) : (maskL f b).length = b.length := by simp [maskL]
theorem streamL_length (key : List Int) (c : Nat) (nonce b : List Int) : (streamL key c nonce b).length = b.length := maskL_length _ _

theorem near {n : Nat} (h : n ≤ 68719476736) : tooFar 1 n = false := by
  simp [tooFar]; omega

theorem wrapNeg : ∀ n : Fin 16, IntKind.i64.wrap ((n.val : Int) - 16) = (n.val : Int) - 16 := by decide +kernel

def sealL (key nonce a b : List Int) : List Int := streamL key 1 nonce b ++ (tagL key nonce a (streamL key 1 nonce b)).take 16

def I28 : (R : Type) → List DV → (List DV → Option R) → Option R := fun _ ds k => match ds with
  | [.v (.one (.ints .u8 32 key)), .v (.one (.ints .u8 12 nonce)), .lst .u8 1 a, .lst .u8 1 b] =>
    cond (Nat.ble a.length lim5 && Nat.ble b.length lim5) (k [.lst .u8 1 (sealL key nonce a b)]) none
  | _ => none

theorem c28 : Contract Try.prog 28 { sig := S28, impl := I28 } := by
  refine Contract.refine fun R ds k r h => ⟨_, f28_contract 0 G28_ok, ?_⟩
  unfold I28 at h
  split at h
  · rename_i key nonce a b
    rw [f28_raw_eq]
    cases hb : (Nat.ble a.length lim5 && Nat.ble b.length lim5) with
    | false => rw [hb] at h; cases h
    | true =>
      rw [hb] at h
      simp only [Bool.and_eq_true] at hb
      have ha : a.length ≤ 68719476736 := Nat.le_of_ble_eq_true hb.1
      have hb : b.length ≤ 68719476736 := Nat.le_of_ble_eq_true hb.2
      unfold f28_raw
      rw [show (decide ((0 : Nat) ≤ 1) && (decide ((1 : Nat) < 4294967296) && b.length.ble lim)) = true by simp [lim]; omega]
      rw [show tooFar (Int.toNat 1) b.length = false from near hb]
      rw [show (a.length.ble lim4 && (streamL key (Int.toNat 1) nonce b).length.ble lim4) = true by simp [lim4, streamL_length]; omega]
      have ht : (Go.Eng.sub (tagL key nonce a (streamL key (Int.toNat 1) nonce b)) (plusO .z 1 none) (mulE (subN (hiNat none 16) none) 1)).length ≤ 16 := List.length_take_le _ _
      simp only [cond_true, cond_false]
      rw [show (((2 * (rowLen 1 (streamL key (Int.toNat 1) nonce b) + rowLen 1 (Go.Eng.sub (tagL key nonce a (streamL key (Int.toNat 1) nonce b)) (plusO .z 1 none) (mulE (subN (hiNat none 16) none) 1))) + 192) * 1).ble big48 &&
          (rowLen 1 (streamL key (Int.toNat 1) nonce b) + rowLen 1 (Go.Eng.sub (tagL key nonce a (streamL key (Int.toNat 1) nonce b)) (plusO .z 1 none) (mulE (subN (hiNat none 16) none) 1))).ble big48) = true by
        simp only [rowLen_one, big48, streamL_length, Bool.and_eq_true, Nat.ble_eq]; omega]
      exact h
  · cases h

/-- what opening answers: bytes and how it went -/
def openL (key nonce a b : List Int) : List Int × Int :=
  if b.length < 16 then ([], 3) else
  if tagL key nonce a (b.take (b.length - 16)) = (b.drop (b.length - 16)).take 16 then (streamL key 1 nonce (b.take (b.length - 16)), 0) else ([], 121)

def I26 : (R : Type) → List DV → (List DV → Option R) → Option R := fun _ ds k => match ds with
  | [.v (.one (.ints .u8 32 key)), .v (.one (.ints .u8 12 nonce)), .lst .u8 1 a, .lst .u8 1 b] =>
    cond (Nat.ble a.length lim5 && Nat.ble b.length lim5) (k [.lst .u8 1 (openL key nonce a b).1, .v (.one (.int .i64 (openL key nonce a b).2))]) none
  | _ => none

theorem c26 : Contract Try.prog 26 { sig := S26, impl := I26 } := by
  refine Contract.refine fun R ds k r h => ⟨_, f26_contract 0 G28_ok, ?_⟩
  unfold I26 at h
  split at h
  · rename_i key nonce a b
    rw [f26_raw_eq]
    cases hb : (Nat.ble a.length lim5 && Nat.ble b.length lim5) with
    | false => rw [hb] at h; cases h
    | true =>
      rw [hb] at h
      simp only [Bool.and_eq_true] at hb
      have ha : a.length ≤ 68719476736 := Nat.le_of_ble_eq_true hb.1
      have hb : b.length ≤ 68719476736 := Nat.le_of_ble_eq_true hb.2
      unfold f26_raw
      unfold openL at h
      by_cases hl : b.length < 16
      · have e0 : decide (IntKind.i64.wrap (nI (rowLen 1 b) - 16) < 0) = true := by
          have : IntKind.i64.wrap (nI (rowLen 1 b) - 16) = nI (rowLen 1 b) - 16 := by
            exact wrapNeg ⟨b.length, hl⟩
          rw [this]
          exact decide_eq_true (by show (b.length : Int) - 16 < 0; omega)
        simp only
        rw [e0]
        rw [if_pos hl] at h
        exact h
      · have e0 : IntKind.i64.wrap (nI (rowLen 1 b) - 16) = ((b.length - 16 : Nat) : Int) := wrapI (by show (b.length : Int) - 16 = _; omega) (by omega)
        rw [if_neg hl] at h
        rw [e0]
        have e1 : decide (((b.length - 16 : Nat) : Int) < 0) = false := by simp
        have e2 : hiOk (some ((b.length - 16 : Nat) : Int)) (rowLen 1 b) = true := hiOk_nat (by rw [rowLen_one]; omega)
        have e3 : Go.Eng.sub b (plusO .z 1 none) (mulE (subN (hiNat (some ((b.length - 16 : Nat) : Int)) (rowLen 1 b)) none) 1) = b.take (b.length - 16) := by
          simp [Go.Eng.sub, plusO, mulE, subN, hiNat]
        have e4 : loOk (some ((b.length - 16 : Nat) : Int)) (hiInt none (rowLen 1 b)) = true := loOk_nat (by simp [hiInt, rowLen_one])
        have e5 : (Nat.ble 1 16 && Nat.ble 16 (subN (hiNat none (rowLen 1 b)) (some ((b.length - 16 : Nat) : Int)))) = true := by
          simp [subN, hiNat, rowLen_one]; omega
        have l1 : (b.take (b.length - 16)).length ≤ 68719476736 := by rw [List.length_take]; omega
        have e6 : (a.length.ble lim4 && (b.take (b.length - 16)).length.ble lim4) = true := by simp only [lim4, Bool.and_eq_true, Nat.ble_eq]; omega
        have e7 : (decide ((0 : Nat) ≤ 1) && (decide ((1 : Nat) < 4294967296) && (b.take (b.length - 16)).length.ble lim)) = true := by
          simp only [lim, Bool.and_eq_true, Nat.ble_eq, decide_eq_true_eq]; omega
        have e8 : tooFar (Int.toNat 1) (b.take (b.length - 16)).length = false := near l1
        have e9 : (b.drop (mulE ((b.length - 16 : Nat) : Int).toNat 1)) = b.drop (b.length - 16) := by rw [mulE_one, Int.toNat_natCast]
        simp only
        rw [e1, e2, e3, e4, e5, e6, e7, e8, e9]
        by_cases ht : tagL key nonce a (b.take (b.length - 16)) = (b.drop (b.length - 16)).take 16
        · rw [if_pos ht] at h
          rw [show decide (tagL key nonce a (b.take (b.length - 16)) = (b.drop (b.length - 16)).take 16) = true from decide_eq_true ht]
          exact h
        · rw [if_neg ht] at h
          rw [show decide (tagL key nonce a (b.take (b.length - 16)) = (b.drop (b.length - 16)).take 16) = false from decide_eq_false ht]
          exact h
  · cases h

def G23 : Ctx := [(21, { sig := S21, impl := I21 }), (26, { sig := S26, impl := I26 }), (28, { sig := S28, impl := I28 })]
theorem G23_ok : CtxOk Try.prog G23 := ctxOk_cons ok21 rfl c21 (ctxOk_cons ok26 rfl c26 (ctxOk_cons ok28 rfl c28 ctxOk_nil))

end Go.Proofs.Ytiaddnmloonhgaa

/- What the laws read. -/
namespace Go.Proofs.Ytiaddnmloonhgaa
open Go Go.Eng

def I23 : (R : Type) → List DV → (List DV → Option R) → Option R := fun _ ds k => match ds with
  | [] => k [.v (.one (.bool true))]
  | _ => none

def G6 : Ctx := [(16, { sig := S16, impl := I16 }), (20, { sig := S20, impl := I20 }), (23, { sig := S23, impl := I23 }), (24, { sig := S24, impl := I24 }), (26, { sig := S26, impl := I26 }), (28, { sig := S28, impl := I28 }), (18, { sig := S18, impl := I18 }), (30, { sig := S30, impl := I30 })]

/-- the start of a law over a case -/
def caseS (n : Nat) (key nonce op text other : List Int) (at_ by_ : Int) : AS :=
  { n := n, lo := 0, tmps := [(0, .s (.agg [.ints .u8 32 key, .ints .u8 12 nonce, .own 1000001, .own 1000002, .own 1000003, .int .i64 at_, .int .u8 by_]))],
    items := [(1000001, .view .u8 1 op), (1000002, .view .u8 1 text), (1000003, .view .u8 1 other)] }

end Go.Proofs.Ytiaddnmloonhgaa

/- There and back. -/
namespace Go.Proofs.Ytiaddnmloonhgaa
open Go Go.Eng
set_option maxRecDepth 100000

def Bytes (l : List Int) : Prop := ∀ x ∈ l, 0 ≤ x ∧ x < 256

theorem wrapU8 {n : Int} (h0 : 0 ≤ n) (h : n < 256) : IntKind.u8.wrap n = n := by
  unfold IntKind.wrap
  simp only [IntKind.bits, IntKind.signed]
  have e : n % 2 ^ 8 = n := Int.emod_eq_of_lt h0 (by omega)
  simp only [e]
  simp

theorem xor8_eq (x y : Int) : xorI .u8 x y = ((BitVec.ofInt 8 x ^^^ BitVec.ofInt 8 y).toNat : Int) := by
  have h := (BitVec.ofInt 8 x ^^^ BitVec.ofInt 8 y).isLt
  exact wrapU8 (n := ((BitVec.ofInt 8 x ^^^ BitVec.ofInt 8 y).toNat : Int)) (by omega) (by omega)

theorem xor8_byte (x y : Int) : 0 ≤ xorI .u8 x y ∧ xorI .u8 x y < 256 := by
  rw [xor8_eq]
  have h := (BitVec.ofInt 8 x ^^^ BitVec.ofInt 8 y).isLt
  omega

theorem xor8_twice {x : Int} (h0 : 0 ≤ x) (h : x < 256) (y : Int) : xorI .u8 (xorI .u8 x y) y = x := by
  rw [xor8_eq (xorI .u8 x y) y, xor8_eq x y]
  rw [BitVec.ofInt_natCast, BitVec.ofNat_toNat]
  simp only [BitVec.setWidth_eq]
  rw [BitVec.xor_assoc, BitVec.xor_self, BitVec.xor_zero, BitVec.toNat_ofInt]
  omega

theorem stream_bytes (key : List Int) (c : Nat) (nonce b : List Int) : Bytes (streamL key c nonce b) := by
  intro x hx
  unfold streamL maskL at hx
  rw [List.mem_mapIdx] at hx
  obtain ⟨i, hi, rfl⟩ := hx
  exact xor8_byte _ _

theorem stream_twice (key : List Int) (c : Nat) (nonce : List Int) {b : List Int} (hb : Bytes b) : streamL key c nonce (streamL key c nonce b) = b := by
  apply List.ext_getElem?
  intro i
  unfold streamL maskL
  rw [List.getElem?_mapIdx, List.getElem?_mapIdx]
  cases h : b[i]? with
  | none => rfl
  | some x =>
    obtain ⟨h0, h1⟩ := hb x (List.mem_of_getElem? h)
    simp only [Option.map_some]
    rw [xor8_twice h0 h1]

theorem digL_length (key b' w : List Int) : (digL key b' w).length = 16 := by kernel_rfl

theorem macL_length (key b : List Int) : (macL key b).length = 16 := digL_length _ _ _

theorem tagL_length (key nonce a b : List Int) : (tagL key nonce a b).length = 16 := macL_length _ _

theorem sealL_eq (key nonce a b : List Int) : sealL key nonce a b = streamL key 1 nonce b ++ tagL key nonce a (streamL key 1 nonce b) := by
  unfold sealL
  rw [List.take_of_length_le (by rw [tagL_length]; omega)]

theorem sealL_length (key nonce a b : List Int) : (sealL key nonce a b).length = b.length + 16 := by
  rw [sealL_eq, List.length_append, streamL_length, tagL_length]

theorem open_seal (key nonce a : List Int) {b : List Int} (hb : Bytes b) : openL key nonce a (sealL key nonce a b) = (b, 0) := by
  unfold openL
  rw [sealL_length, if_neg (by omega)]
  have e1 : (sealL key nonce a b).take (b.length + 16 - 16) = streamL key 1 nonce b := by
    rw [sealL_eq, Nat.add_sub_cancel, List.take_append_of_le_length (by rw [streamL_length]; omega), List.take_of_length_le (by rw [streamL_length]; omega)]
  have e2 : ((sealL key nonce a b).drop (b.length + 16 - 16)).take 16 = tagL key nonce a (streamL key 1 nonce b) := by
    rw [sealL_eq, Nat.add_sub_cancel, List.drop_append_of_le_length (by rw [streamL_length]; omega), List.drop_of_length_le (by rw [streamL_length]; omega), List.nil_append, List.take_of_length_le (by rw [tagL_length]; omega)]
  rw [e1, e2, if_pos rfl, stream_twice key 1 nonce hb]

theorem seal_open (key nonce a : List Int) {b : List Int} (hb : Bytes b) (h : (openL key nonce a b).2 = 0) : sealL key nonce a (openL key nonce a b).1 = b := by
  unfold openL at h ⊢
  by_cases hl : b.length < 16
  · rw [if_pos hl] at h; cases h
  · rw [if_neg hl] at h ⊢
    by_cases ht : tagL key nonce a (b.take (b.length - 16)) = (b.drop (b.length - 16)).take 16
    · rw [if_pos ht]
      simp only
      rw [sealL_eq, stream_twice key 1 nonce (fun x hx => hb x (List.mem_of_mem_take hx)), ht]
      rw [show (b.drop (b.length - 16)).take 16 = b.drop (b.length - 16) from List.take_of_length_le (by rw [List.length_drop]; omega), List.take_append_drop]
    · rw [if_neg ht] at h; cases h

theorem open_cases (key nonce a b : List Int) : (openL key nonce a b).2 = 0 ∨ ((openL key nonce a b).1 = [] ∧ (((openL key nonce a b).2 = 3 ∧ b.length < 16) ∨ ((openL key nonce a b).2 = 121 ∧ ¬ b.length < 16))) := by
  unfold openL
  by_cases hl : b.length < 16
  · rw [if_pos hl]; exact .inr ⟨rfl, .inl ⟨rfl, hl⟩⟩
  · rw [if_neg hl]
    by_cases ht : tagL key nonce a (b.take (b.length - 16)) = (b.drop (b.length - 16)).take 16
    · rw [if_pos ht]; exact .inl rfl
    · rw [if_neg ht]; exact .inr ⟨rfl, .inr ⟨rfl, hl⟩⟩

theorem open_length (key nonce a b : List Int) : (openL key nonce a b).1.length ≤ b.length := by
  unfold openL
  by_cases hl : b.length < 16
  · rw [if_pos hl]; simp
  · rw [if_neg hl]
    by_cases ht : tagL key nonce a (b.take (b.length - 16)) = (b.drop (b.length - 16)).take 16
    · rw [if_pos ht]; simp only; rw [streamL_length, List.length_take]; omega
    · rw [if_neg ht]; simp

end Go.Proofs.Ytiaddnmloonhgaa

/- A case of sealing, opened. -/
namespace Go.Proofs.Ytiaddnmloonhgaa
open Go Go.Eng Go.ChangeShapes Go.WideShapes Go.RowKit
set_option maxRecDepth 100000

theorem own0 : ownKnob Try.prog.godebug = none := by kernel_rfl
theorem laidOut : laidOutB Try.prog = true := by kernel_rfl

theorem bulk_one {H : Type} (d : DataW H) : 1 ≤ Rows.uptoBulk d := by
  cases d with
  | lit l => cases l <;> simp [Rows.uptoBulk]
  | nil => simp [Rows.uptoBulk]
  | ptr d => simp [Rows.uptoBulk]
  | slice elems spare => simp [Rows.uptoBulk]
  | agg parts => simp [Rows.uptoBulk]
  | iface t d => simp [Rows.uptoBulk]
  | map entries => simp [Rows.uptoBulk]
  | held h => simp [Rows.uptoBulk]

theorem bulk_length {H : Type} (l : List (DataW H)) : l.length ≤ Rows.uptoBulkAll l := by
  induction l with
  | nil => simp [Rows.uptoBulkAll]
  | cons x r ih => have := bulk_one x; simp only [Rows.uptoBulkAll, List.length_cons]; omega

theorem bulk_slice {H : Type} {d : DataW H} {len : Nat} (h : (d = .nil ∧ len = 0) ∨ ∃ elems spare, d = .slice elems spare ∧ elems.length = len) : len ≤ Rows.uptoBulk d := by
  rcases h with ⟨rfl, rfl⟩ | ⟨elems, spare, rfl, rfl⟩
  · exact Nat.zero_le _
  · have := bulk_length elems
    simp only [Rows.uptoBulk]; omega

theorem bulk_bound {H : Type} {l : List (DataW H)} (hk : Rows.uptoSmall H l = true) : Rows.uptoBulkAll l ≤ 1048576 := of_decide_eq_true hk

theorem wf_u8 {y : Int} (h : (Lit.int .u8 y).wf = true) : 0 ≤ y ∧ y < 256 := by
  have := bounds_u8 h; omega

section
variable {H : Type} {enc : TypeId × Value → H}

theorem elB (H : Type) (enc : TypeId × Value → H) : IntEl H enc Try.prog 5 .u8 1 := intEl_int Try.underlying5 (by kernel_rfl)

theorem case_open {W : World} {base b0 : Nat} {sp : Nat → Bool} {hd : Bool} {r : Reach} {v : Value} {d : DataW H} {ps : List MemPlace} (hval : Value.okWide Try.prog W r b0 66 v) (h : DataW.Trod enc Try.prog W base sp hd 66 v d ps) (hk : Rows.uptoBulk d ≤ 1048576) :
    ∃ (key nonce op text other : List Int) (at_ by_ : Int) (ρ : Rho), ∀ n, key.length = 32 ∧ nonce.length = 12 ∧ op.length ≤ 1048576 ∧ text.length ≤ 1048576 ∧ other.length ≤ 1048576 ∧ Bytes key ∧ Bytes nonce ∧ Bytes op ∧ Bytes text ∧ Bytes other ∧
      (-9223372036854775808 ≤ at_ ∧ at_ ≤ 9223372036854775807) ∧ (0 ≤ by_ ∧ by_ < 256) ∧
      (1 ≤ n → Sim W ⟨fun _ => False, ρ.loc, ρ.tot, (caseS n key nonce op text other at_ by_).S⟩ ρ (caseS n key nonce op text other at_ by_) { tmps := #[v] ++ Array.replicate (n - 1) undef, defers := [] } W) := by
  obtain ⟨cs, rfl, hcs⟩ := okWide_struct Try.underlying66 hval
  have hcs' : cs.size = 49 := by rw [hcs]; kernel_rfl
  obtain ⟨fuel, h⟩ := h
  obtain ⟨xs, m, rfl, hx, hl, hlen, hf⟩ := DataW.trod_struct Try.underlying66 h
  match xs, hlen with
  | [y0, y1, y2, y3, y4, y5, y6], _ =>
  have g0 : DataW.trod enc Try.prog W base sp hd m 23 ((cs.toList.drop 0).take (Try.prog.cellsOf 23)) = some y0 := hf 0 _ rfl
  have g1 : DataW.trod enc Try.prog W base sp hd m 26 ((cs.toList.drop 32).take (Try.prog.cellsOf 26)) = some y1 := hf 1 _ rfl
  have g2 : DataW.trod enc Try.prog W base sp hd m 27 ((cs.toList.drop 44).take (Try.prog.cellsOf 27)) = some y2 := hf 2 _ rfl
  have g3 : DataW.trod enc Try.prog W base sp hd m 27 ((cs.toList.drop 45).take (Try.prog.cellsOf 27)) = some y3 := hf 3 _ rfl
  have g4 : DataW.trod enc Try.prog W base sp hd m 27 ((cs.toList.drop 46).take (Try.prog.cellsOf 27)) = some y4 := hf 4 _ rfl
  have g5 : DataW.trod enc Try.prog W base sp hd m 3 ((cs.toList.drop 47).take (Try.prog.cellsOf 3)) = some y5 := hf 5 _ rfl
  have g6 : DataW.trod enc Try.prog W base sp hd m 5 ((cs.toList.drop 48).take (Try.prog.cellsOf 5)) = some y6 := hf 6 _ rfl
  rw [show Try.prog.cellsOf 23 = 32 by kernel_rfl] at g0
  rw [show Try.prog.cellsOf 26 = 12 by kernel_rfl] at g1
  rw [show Try.prog.cellsOf 27 = 1 by kernel_rfl] at g2 g3 g4
  rw [show Try.prog.cellsOf 3 = 1 by kernel_rfl] at g5
  rw [show Try.prog.cellsOf 5 = 1 by kernel_rfl] at g6
  obtain ⟨key, k1, k2, k3⟩ := (intEl_array (H := H) (enc := enc) Try.underlying23 (es := 1) (by kernel_rfl) (by omega) (elB H enc)).2 _ _ _ _ _ _ _ g0
  obtain ⟨nonce, n1, n2, n3⟩ := (intEl_array (H := H) (enc := enc) Try.underlying26 (es := 1) (by kernel_rfl) (by omega) (elB H enc)).2 _ _ _ _ _ _ _ g1
  obtain ⟨op, ol, oc, oA, oloc, o1, o2, o3, o4, o5, o6, o7, o8⟩ := open_view Try.underlying27 (by omega) (elB H enc) g2
  obtain ⟨tx, tl, tc, tA, tloc, t1, t2, t3, t4, t5, t6, t7, t8⟩ := open_view Try.underlying27 (by omega) (elB H enc) g3
  obtain ⟨oth, el, ec, eA, eloc, e1, e2, e3, e4, e5, e6, e7, e8⟩ := open_view Try.underlying27 (by omega) (elB H enc) g4
  obtain ⟨at_, a1, _, a2⟩ := DataW.trod_int Try.underlying3 g5
  obtain ⟨by_, b1, _, b2⟩ := DataW.trod_int Try.underlying5 g6
  have hd : d = .agg [y0.1, y1.1, y2.1, y3.1, y4.1, y5.1, y6.1] := by injection hx
  rw [hd] at hk
  simp only [Rows.uptoBulk, Rows.uptoBulkAll] at hk
  have q2 := bulk_slice o8
  have q3 := bulk_slice t8
  have q4 := bulk_slice e8
  have hby : ∀ {l : List Int}, (∀ y ∈ l, (Lit.int .u8 y).wf = true) → Bytes l := fun h x hx => wf_u8 (h x hx)
  refine ⟨key, nonce, op, tx, oth, at_, by_, ⟨locOf [(1000001, oloc), (1000002, tloc), (1000003, eloc)], fun _ => 0⟩, fun n => ⟨by simpa using k2, by simpa using n2, by omega, by omega, by omega, hby k3, hby n3, hby o7, hby t7, hby e7, bounds_i64 a2, wf_u8 b2, fun hn => ?_⟩⟩
  refine sim_start (avs := [.s (.agg [.ints .u8 32 key, .ints .u8 12 nonce, .own 1000001, .own 1000002, .own 1000003, .int .i64 at_, .int .u8 by_])]) rfl hn rfl ?_ ?_ ?_ ⟨?_, trivial⟩
  · simp [caseS, Nodup', putNames]
  · intro j it hi
    simp only [caseS, AS.I, findI_cons] at hi
    split at hi
    · rename_i hj; subst hj; injection hi with hi; subst hi
      exact ⟨_, _, _, rfl, by omega, ⟨ol, o3⟩, o4⟩
    · split at hi
      · rename_i hj; subst hj; injection hi with hi; subst hi
        exact ⟨_, _, _, rfl, by omega, ⟨tl, t3⟩, t4⟩
      · split at hi
        · rename_i hj; subst hj; injection hi with hi; subst hi
          exact ⟨_, _, _, rfl, by omega, ⟨el, e3⟩, e4⟩
        · simp [findI] at hi
  · intro j p hp
    simp only [locOf] at hp
    split at hp
    · exact o6 p hp
    · split at hp
      · exact t6 p hp
      · split at hp
        · exact e6 p hp
        · cases hp
  · refine ⟨cs.toList, by simp, ?_⟩
    have := relL_of (ρ := ⟨locOf [(1000001, oloc), (1000002, tloc), (1000003, eloc)], fun _ => 0⟩) (S := (caseS n key nonce op tx oth at_ by_).S) (off := 0) (cs := cs.toList)
      (l := [(.ints .u8 32 key, 32), (.ints .u8 12 nonce, 12), (.own 1000001, 1), (.own 1000002, 1), (.own 1000003, 1), (.int .i64 at_, 1), (.int .u8 by_, 1)])
      ⟨by simp [hcs'], ⟨k1, by simpa using k2⟩, by simp [hcs'], ⟨n1, by simpa using n2⟩, by simp [hcs'], rel_own rfl o1 o2 o3 o5 (by omega), by simp [hcs'], rel_own rfl t1 t2 t3 t5 (by omega), by simp [hcs'], rel_own rfl e1 e2 e3 e5 (by omega), by simp [hcs'], a1, by simp [hcs'], b1, (show cs.toList.length = 49 by simpa using hcs')⟩
    exact this
end
end Go.Proofs.Ytiaddnmloonhgaa

/- What rime/rimeref12.eight comes to. MADE BY PROGRAM (wip/tools/mkfn.py, EngGen.lean). -/
namespace Go.Proofs.Ytiaddnmloonhgaa
open Go Go.Eng
set_option maxRecDepth 100000
set_option linter.unusedVariables false

noncomputable def f98_raw {R : Type} (N : Nat) (n : Int) (k : List DV → Option R) : Option R :=
 let v0 : Int := IntKind.u64.wrap n;
let v1 : Int := IntKind.i64.wrap (8 * 0);
let v2 : Int := IntKind.u64.wrap v1;
let v3 : Int := shrI IntKind.u64 v0 v2;
let v4 : Int := IntKind.u8.wrap v3;
let v5 : List Int := (zerosOf (1 * 1)).set 0 v4;
let v6 : List Int := [] ++ v5;
let v7 : Int := IntKind.i64.wrap (0 + 1);
let v8 : Int := IntKind.i64.wrap (8 * v7);
let v9 : Int := IntKind.u64.wrap v8;
let v10 : Int := shrI IntKind.u64 v0 v9;
let v11 : Int := IntKind.u8.wrap v10;
let v12 : List Int := (zerosOf (1 * 1)).set 0 v11;
let v13 : List Int := v6 ++ v12;
let v14 : Int := IntKind.i64.wrap (v7 + 1);
let v15 : Int := IntKind.i64.wrap (8 * v14);
let v16 : Int := IntKind.u64.wrap v15;
let v17 : Int := shrI IntKind.u64 v0 v16;
let v18 : Int := IntKind.u8.wrap v17;
let v19 : List Int := (zerosOf (1 * 1)).set 0 v18;
let v20 : List Int := v13 ++ v19;
let v21 : Int := IntKind.i64.wrap (v14 + 1);
let v22 : Int := IntKind.i64.wrap (8 * v21);
let v23 : Int := IntKind.u64.wrap v22;
let v24 : Int := shrI IntKind.u64 v0 v23;
let v25 : Int := IntKind.u8.wrap v24;
let v26 : List Int := (zerosOf (1 * 1)).set 0 v25;
let v27 : List Int := v20 ++ v26;
let v28 : Int := IntKind.i64.wrap (v21 + 1);
let v29 : Int := IntKind.i64.wrap (8 * v28);
let v30 : Int := IntKind.u64.wrap v29;
let v31 : Int := shrI IntKind.u64 v0 v30;
let v32 : Int := IntKind.u8.wrap v31;
let v33 : List Int := (zerosOf (1 * 1)).set 0 v32;
let v34 : List Int := v27 ++ v33;
let v35 : Int := IntKind.i64.wrap (v28 + 1);
let v36 : Int := IntKind.i64.wrap (8 * v35);
let v37 : Int := IntKind.u64.wrap v36;
let v38 : Int := shrI IntKind.u64 v0 v37;
let v39 : Int := IntKind.u8.wrap v38;
let v40 : List Int := (zerosOf (1 * 1)).set 0 v39;
let v41 : List Int := v34 ++ v40;
let v42 : Int := IntKind.i64.wrap (v35 + 1);
let v43 : Int := IntKind.i64.wrap (8 * v42);
let v44 : Int := IntKind.u64.wrap v43;
let v45 : Int := shrI IntKind.u64 v0 v44;
let v46 : Int := IntKind.u8.wrap v45;
let v47 : List Int := (zerosOf (1 * 1)).set 0 v46;
let v48 : List Int := v41 ++ v47;
let v49 : Int := IntKind.i64.wrap (v42 + 1);
let v50 : Int := IntKind.i64.wrap (8 * v49);
let v51 : Int := IntKind.u64.wrap v50;
let v52 : Int := shrI IntKind.u64 v0 v51;
let v53 : Int := IntKind.u8.wrap v52;
let v54 : List Int := (zerosOf (1 * 1)).set 0 v53;
let v55 : List Int := v48 ++ v54;
k [DV.lst IntKind.u8 1 v55]


noncomputable def E98 (N : Nat) : Env := { Θ := Th, Γ := [], K := K98, ν := N98, fuel := 60, lp := [] }


theorem f98_contract (N : Nat) (hΓ : CtxOk Try.prog []) : Contract Try.prog 98 { sig := S98, impl := fun _ ds k => call (E98 N) S98 20 B98 R98 ds k } :=
  call_contract (E := E98 N) thOk hΓ mixed ok98.look ok98.body ok98.n ok98.rv ok98.name rfl (by decide) (loopsOk_of (l := [(0, B98_0)]) (by kernel_rfl) (allOk_skip rfl trivial))
theorem f98_raw_eq {R : Type} (N : Nat) (n : Int) (k : List DV → Option R) : call (E98 N) S98 20 B98 R98 [.v (.one (.int .i64 n))] k = f98_raw N n k := by kernel_rfl
end Go.Proofs.Ytiaddnmloonhgaa

/- What rime/rimeref12.Numbered comes to. MADE BY PROGRAM (wip/tools/mkfn.py, EngGen.lean). -/
namespace Go.Proofs.Ytiaddnmloonhgaa
open Go Go.Eng
set_option maxRecDepth 100000
set_option linter.unusedVariables false

noncomputable def f70_raw {R : Type} (N : Nat) (n : Int) (k : List DV → Option R) : Option R :=
 let v0 : Int := IntKind.i64.wrap (4 + 0);
let v1 : Int := IntKind.i64.wrap (8 * 0);
let v2 : Int := IntKind.u64.wrap v1;
let v3 : Int := shrI IntKind.u64 n v2;
let v4 : Int := IntKind.u8.wrap v3;
let v5 : List Int := (List.replicate 12 0).set (mulE v0.toNat 1) v4;
let v6 : Int := IntKind.i64.wrap (0 + 1);
let v7 : Int := IntKind.i64.wrap (4 + v6);
let v8 : Int := IntKind.i64.wrap (8 * v6);
let v9 : Int := IntKind.u64.wrap v8;
let v10 : Int := shrI IntKind.u64 n v9;
let v11 : Int := IntKind.u8.wrap v10;
let v12 : List Int := v5.set (mulE v7.toNat 1) v11;
let v13 : Int := IntKind.i64.wrap (v6 + 1);
let v14 : Int := IntKind.i64.wrap (4 + v13);
let v15 : Int := IntKind.i64.wrap (8 * v13);
let v16 : Int := IntKind.u64.wrap v15;
let v17 : Int := shrI IntKind.u64 n v16;
let v18 : Int := IntKind.u8.wrap v17;
let v19 : List Int := v12.set (mulE v14.toNat 1) v18;
let v20 : Int := IntKind.i64.wrap (v13 + 1);
let v21 : Int := IntKind.i64.wrap (4 + v20);
let v22 : Int := IntKind.i64.wrap (8 * v20);
let v23 : Int := IntKind.u64.wrap v22;
let v24 : Int := shrI IntKind.u64 n v23;
let v25 : Int := IntKind.u8.wrap v24;
let v26 : List Int := v19.set (mulE v21.toNat 1) v25;
let v27 : Int := IntKind.i64.wrap (v20 + 1);
let v28 : Int := IntKind.i64.wrap (4 + v27);
let v29 : Int := IntKind.i64.wrap (8 * v27);
let v30 : Int := IntKind.u64.wrap v29;
let v31 : Int := shrI IntKind.u64 n v30;
let v32 : Int := IntKind.u8.wrap v31;
let v33 : List Int := v26.set (mulE v28.toNat 1) v32;
let v34 : Int := IntKind.i64.wrap (v27 + 1);
let v35 : Int := IntKind.i64.wrap (4 + v34);
let v36 : Int := IntKind.i64.wrap (8 * v34);
let v37 : Int := IntKind.u64.wrap v36;
let v38 : Int := shrI IntKind.u64 n v37;
let v39 : Int := IntKind.u8.wrap v38;
let v40 : List Int := v33.set (mulE v35.toNat 1) v39;
let v41 : Int := IntKind.i64.wrap (v34 + 1);
let v42 : Int := IntKind.i64.wrap (4 + v41);
let v43 : Int := IntKind.i64.wrap (8 * v41);
let v44 : Int := IntKind.u64.wrap v43;
let v45 : Int := shrI IntKind.u64 n v44;
let v46 : Int := IntKind.u8.wrap v45;
let v47 : List Int := v40.set (mulE v42.toNat 1) v46;
let v48 : Int := IntKind.i64.wrap (v41 + 1);
let v49 : Int := IntKind.i64.wrap (4 + v48);
let v50 : Int := IntKind.i64.wrap (8 * v48);
let v51 : Int := IntKind.u64.wrap v50;
let v52 : Int := shrI IntKind.u64 n v51;
let v53 : Int := IntKind.u8.wrap v52;
let v54 : List Int := v47.set (mulE v49.toNat 1) v53;
k [DV.v (SV.one (At.ints IntKind.u8 12 v54))]


noncomputable def E70 (N : Nat) : Env := { Θ := Th, Γ := [], K := K70, ν := N70, fuel := 60, lp := [] }


theorem f70_contract (N : Nat) (hΓ : CtxOk Try.prog []) : Contract Try.prog 70 { sig := S70, impl := fun _ ds k => call (E70 N) S70 19 B70 R70 ds k } :=
  call_contract (E := E70 N) thOk hΓ mixed ok70.look ok70.body ok70.n ok70.rv ok70.name rfl (by decide) (loopsOk_of (l := [(0, B70_0)]) (by kernel_rfl) (allOk_skip rfl trivial))
theorem f70_raw_eq {R : Type} (N : Nat) (n : Int) (k : List DV → Option R) : call (E70 N) S70 19 B70 R70 [.v (.one (.int .u64 n))] k = f70_raw N n k := by kernel_rfl
end Go.Proofs.Ytiaddnmloonhgaa

/- What rime/rimeref12.prime comes to. MADE BY PROGRAM (wip/tools/mkfn.py, EngGen.lean). -/
namespace Go.Proofs.Ytiaddnmloonhgaa
open Go Go.Eng
set_option maxRecDepth 100000
set_option linter.unusedVariables false

noncomputable def f119_raw {R : Type} (N : Nat)  (k : List DV → Option R) : Option R :=
 let v0 : List Int := (List.replicate 5 0).set 0 4294967291;
let v1 : List Int := v0.set 1 4294967295;
let v2 : List Int := v1.set 2 4294967295;
let v3 : List Int := v2.set 3 4294967295;
let v4 : List Int := v3.set 4 3;
k [DV.v (SV.one (At.ints IntKind.u32 5 v4))]


noncomputable def E119 (N : Nat) : Env := { Θ := Th, Γ := [], K := K119, ν := N119, fuel := 60, lp := [] }


theorem f119_contract (N : Nat) (hΓ : CtxOk Try.prog []) : Contract Try.prog 119 { sig := S119, impl := fun _ ds k => call (E119 N) S119 2 B119 R119 ds k } :=
  call_contract (E := E119 N) thOk hΓ mixed ok119.look ok119.body ok119.n ok119.rv ok119.name rfl (by decide) (loopsOk_of (l := []) (by kernel_rfl) trivial)
theorem f119_raw_eq {R : Type} (N : Nat)  (k : List DV → Option R) : call (E119 N) S119 2 B119 R119 [] k = f119_raw N  k := by kernel_rfl
end Go.Proofs.Ytiaddnmloonhgaa

/- What rime/rimeref12.below comes to. MADE BY PROGRAM (wip/tools/mkfn.py, EngGen.lean). -/
namespace Go.Proofs.Ytiaddnmloonhgaa
open Go Go.Eng
set_option maxRecDepth 100000
set_option linter.unusedVariables false

def f120_0_sh : Shp := { n := 24, lo := 2, slots := [(2, .one (.fix (At.ptr 2 0 Off.z 5))), (3, .one (.fix (At.ptr 3 0 Off.z 5))), (5, .one (.int IntKind.i64))], items := [(2, .obj [.ints IntKind.u32 5]), (3, .obj [.ints IntKind.u32 5])] }
def f120_0_ex1 : Shp := { n := 24, lo := 2, slots := [(4, .one (.bool)), (16, .one (.bool)), (7, .one (.bool)), (2, .one (.fix (At.ptr 2 0 Off.z 5))), (3, .one (.fix (At.ptr 3 0 Off.z 5))), (5, .one (.int IntKind.i64))], items := [(2, .obj [.ints IntKind.u32 5]), (3, .obj [.ints IntKind.u32 5])] }
def f120_0_ex2 : Shp := { n := 24, lo := 2, slots := [(7, .one (.bool)), (2, .one (.fix (At.ptr 2 0 Off.z 5))), (3, .one (.fix (At.ptr 3 0 Off.z 5))), (5, .one (.int IntKind.i64))], items := [(2, .obj [.ints IntKind.u32 5]), (3, .obj [.ints IntKind.u32 5])] }
noncomputable def f120_0_st {R : Type} (N : Nat) (self : Int → List Int → List Int → Option R) (k1 : Bool → Bool → Bool → Int → List Int → List Int → Option R) (k2 : Bool → Int → List Int → List Int → Option R) (x1 : Int) (x2 : List Int) (x3 : List Int) : Option R :=
 bif Decidable.decide (x1 ≥ 0) then
 bif Decidable.decide (0 ≤ x1) && Decidable.decide (x1 < 5) then
 bif Decidable.decide (0 ≤ x1) && Decidable.decide (x1 < 5) then
 bif x2.getD (mulE x1.toNat 1) 0 != x3.getD (mulE x1.toNat 1) 0 then bif Decidable.decide (0 ≤ x1) && Decidable.decide (x1 < 5) then bif Decidable.decide (0 ≤ x1) && Decidable.decide (x1 < 5) then k1 (Decidable.decide (x2.getD (mulE x1.toNat 1) 0 < x3.getD (mulE x1.toNat 1) 0)) (x2.getD (mulE x1.toNat 1) 0 != x3.getD (mulE x1.toNat 1) 0) (Decidable.decide (x1 ≥ 0)) x1 x2 x3 else Option.none else Option.none
 else
 let v0 : Int := IntKind.i64.wrap (x1 - 1);
 self v0 x2 x3
 else Option.none
 else Option.none
else k2 (Decidable.decide (x1 ≥ 0)) x1 x2 x3
noncomputable def f120_0_lp {R : Type} (N : Nat) (k1 : Bool → Bool → Bool → Int → List Int → List Int → Option R) (k2 : Bool → Int → List Int → List Int → Option R) : Nat → Int → List Int → List Int → Option R
 | 0, _, _, _ => none
 | n + 1, x1, x2, x3 => f120_0_st N (f120_0_lp N k1 k2 n) k1 k2 x1 x2 x3
noncomputable def f120_0_F (N : Nat) : (R : Type) → List Leaf → (X → AS → Option R) → Option R := fun _ ls K => match ls with
 | [.i x1, .l x2, .l x3] => f120_0_lp N (fun y1 y2 y3 y4 y5 y6 => K (X.ret) (fill f120_0_ex1 [.b y1, .b y2, .b y3, .i y4, .l y5, .l y6])) (fun y1 y2 y3 y4 => K (X.normal) (fill f120_0_ex2 [.b y1, .i y2, .l y3, .l y4])) N x1 x2 x3
 | _ => none
noncomputable def f120_raw {R : Type} (N : Nat) (a : List Int) (b : List Int) (k : List DV → Option R) : Option R :=
 f120_0_lp N (fun w0_1 w0_2 w0_3 w0_4 w0_5 w0_6 => k [DV.v (SV.one (At.bool w0_1))]) (fun w1_1 w1_2 w1_3 w1_4 => k [DV.v (SV.one (At.bool Bool.false))]) N 4 a b


noncomputable def E120 (N : Nat) : Env := { Θ := Th, Γ := [], K := K120, ν := N120, fuel := 0, lp := [(0, mkL N120_0 f120_0_sh (f120_0_F N))] }

theorem f120_0_st_eq {R : Type} (N : Nat) (K : X → AS → Option R) (n : Nat) (x1 : Int) (x2 : List Int) (x3 : List Int) : roundsOf (E120 N) N120_0 0 B120_0 K (n + 1) (fill f120_0_sh [.i x1, .l x2, .l x3]) = f120_0_st N (fun x1 x2 x3 => roundsOf (E120 N) N120_0 0 B120_0 K n (fill f120_0_sh [.i x1, .l x2, .l x3])) (fun y1 y2 y3 y4 y5 y6 => K (X.ret) (fill f120_0_ex1 [.b y1, .b y2, .b y3, .i y4, .l y5, .l y6])) (fun y1 y2 y3 y4 => K (X.normal) (fill f120_0_ex2 [.b y1, .i y2, .l y3, .l y4])) x1 x2 x3 := by kernel_rfl
theorem f120_0_lp_eq {R : Type} (N : Nat) (K : X → AS → Option R) : ∀ (n : Nat) (x1 : Int) (x2 : List Int) (x3 : List Int), roundsOf (E120 N) N120_0 0 B120_0 K n (fill f120_0_sh [.i x1, .l x2, .l x3]) = f120_0_lp N (fun y1 y2 y3 y4 y5 y6 => K (X.ret) (fill f120_0_ex1 [.b y1, .b y2, .b y3, .i y4, .l y5, .l y6])) (fun y1 y2 y3 y4 => K (X.normal) (fill f120_0_ex2 [.b y1, .i y2, .l y3, .l y4])) n x1 x2 x3
  | 0, _, _, _ => rfl
  | n + 1, x1, x2, x3 => by
    rw [f120_0_st_eq, f120_0_lp, show (fun x1 x2 x3 => roundsOf (E120 N) N120_0 0 B120_0 K n (fill f120_0_sh [.i x1, .l x2, .l x3])) = f120_0_lp N (fun y1 y2 y3 y4 y5 y6 => K (X.ret) (fill f120_0_ex1 [.b y1, .b y2, .b y3, .i y4, .l y5, .l y6])) (fun y1 y2 y3 y4 => K (X.normal) (fill f120_0_ex2 [.b y1, .i y2, .l y3, .l y4])) n from by funext x1 x2 x3; exact f120_0_lp_eq N K n x1 x2 x3]
theorem f120_0_ok (N : Nat) (hlp : LoopsOk Try.prog (E120 N).lp B120_0) (hΓ : CtxOk Try.prog (E120 N).Γ) : LoopOk Try.prog (mkL N120_0 f120_0_sh (f120_0_F N)) 0 B120_0 := by
  refine loopOk_of (E := E120 N) thOk hΓ mixed hlp ?_
  intro R ls K r h
  unfold f120_0_F at h
  split at h
  · exact ⟨N, by rw [f120_0_lp_eq]; exact h⟩
  · cases h

theorem lok120_0 (N : Nat) (hΓ : CtxOk Try.prog []) : LoopOk Try.prog (mkL N120_0 f120_0_sh (f120_0_F N)) 0 B120_0 := f120_0_ok N (loopsOk_of (l := []) (by kernel_rfl) trivial) hΓ
theorem f120_contract (N : Nat) (hΓ : CtxOk Try.prog []) : Contract Try.prog 120 { sig := S120, impl := fun _ ds k => call (E120 N) S120 24 B120 R120 ds k } :=
  call_contract (E := E120 N) thOk hΓ mixed ok120.look ok120.body ok120.n ok120.rv ok120.name rfl (by decide) (loopsOk_of (l := [(0, B120_0)]) (by kernel_rfl) (allOk_cons (L := mkL N120_0 f120_0_sh (f120_0_F N)) rfl (lok120_0 N hΓ) trivial))
theorem f120_raw_eq {R : Type} (N : Nat) (a : List Int) (b : List Int) (k : List DV → Option R) : call (E120 N) S120 24 B120 R120 [.v (.one (.ints .u32 5 a)), .v (.one (.ints .u32 5 b))] k = f120_raw N a b k := by kernel_rfl
end Go.Proofs.Ytiaddnmloonhgaa

/- What rime/rimeref12.minus comes to. MADE BY PROGRAM (wip/tools/mkfn.py, EngGen.lean). -/
namespace Go.Proofs.Ytiaddnmloonhgaa
open Go Go.Eng
set_option maxRecDepth 100000
set_option linter.unusedVariables false

def f121_0_sh : Shp := { n := 30, lo := 2, slots := [(2, .one (.fix (At.ptr 2 0 Off.z 5))), (3, .one (.fix (At.ptr 3 0 Off.z 5))), (4, .one (.fix (At.ptr 4 0 Off.z 5))), (5, .one (.int IntKind.u64)), (6, .one (.int IntKind.i64))], items := [(2, .obj [.ints IntKind.u32 5]), (3, .obj [.ints IntKind.u32 5]), (4, .obj [.ints IntKind.u32 5])] }
def f121_0_ex1 : Shp := { n := 30, lo := 2, slots := [(9, .one (.bool)), (2, .one (.fix (At.ptr 2 0 Off.z 5))), (3, .one (.fix (At.ptr 3 0 Off.z 5))), (4, .one (.fix (At.ptr 4 0 Off.z 5))), (5, .one (.int IntKind.u64)), (6, .one (.int IntKind.i64))], items := [(2, .obj [.ints IntKind.u32 5]), (3, .obj [.ints IntKind.u32 5]), (4, .obj [.ints IntKind.u32 5])] }
noncomputable def f121_0_st {R : Type} (N : Nat) (self : Int → Int → List Int → List Int → List Int → Option R) (k1 : Bool → Int → Int → List Int → List Int → List Int → Option R) (x1 : Int) (x2 : Int) (x3 : List Int) (x4 : List Int) (x5 : List Int) : Option R :=
 bif Decidable.decide (x2 < 5) then
 bif Decidable.decide (0 ≤ x2) && Decidable.decide (x2 < 5) then
 bif Decidable.decide (0 ≤ x2) && Decidable.decide (x2 < 5) then
 bif Decidable.decide (0 ≤ x2) && Decidable.decide (x2 < 5) then
 let v0 : Int := IntKind.u64.wrap (x3.getD (mulE x2.toNat 1) 0);
 let v1 : Int := IntKind.u64.wrap (x4.getD (mulE x2.toNat 1) 0);
 let v2 : Int := IntKind.u64.wrap (v0 - v1);
 let v3 : Int := IntKind.u64.wrap (v2 - x1);
 let v4 : Int := shrI IntKind.u64 v3 63;
 let v5 : Int := IntKind.i64.wrap (x2 + 1);
 let v6 : Int := IntKind.u32.wrap v3;
 let v7 : List Int := x3.set (mulE x2.toNat 1) v6;
 self v4 v5 v7 x4 x5
 else Option.none
 else Option.none
 else Option.none
else k1 (Decidable.decide (x2 < 5)) x1 x2 x3 x4 x5
noncomputable def f121_0_lp {R : Type} (N : Nat) (k1 : Bool → Int → Int → List Int → List Int → List Int → Option R) : Nat → Int → Int → List Int → List Int → List Int → Option R
 | 0, _, _, _, _, _ => none
 | n + 1, x1, x2, x3, x4, x5 => f121_0_st N (f121_0_lp N k1 n) k1 x1 x2 x3 x4 x5
noncomputable def f121_0_F (N : Nat) : (R : Type) → List Leaf → (X → AS → Option R) → Option R := fun _ ls K => match ls with
 | [.i x1, .i x2, .l x3, .l x4, .l x5] => f121_0_lp N (fun y1 y2 y3 y4 y5 y6 => K (X.normal) (fill f121_0_ex1 [.b y1, .i y2, .i y3, .l y4, .l y5, .l y6])) N x1 x2 x3 x4 x5
 | _ => none
noncomputable def f121_raw {R : Type} (N : Nat) (a : List Int) (b : List Int) (k : List DV → Option R) : Option R :=
 f121_0_lp N (fun w0_1 w0_2 w0_3 w0_4 w0_5 w0_6 => k [DV.v (SV.one (At.ints IntKind.u32 5 w0_4))]) N 0 0 a b (List.replicate 5 0)


noncomputable def E121 (N : Nat) : Env := { Θ := Th, Γ := [], K := K121, ν := N121, fuel := 0, lp := [(0, mkL N121_0 f121_0_sh (f121_0_F N))] }

theorem f121_0_st_eq {R : Type} (N : Nat) (K : X → AS → Option R) (n : Nat) (x1 : Int) (x2 : Int) (x3 : List Int) (x4 : List Int) (x5 : List Int) : roundsOf (E121 N) N121_0 0 B121_0 K (n + 1) (fill f121_0_sh [.i x1, .i x2, .l x3, .l x4, .l x5]) = f121_0_st N (fun x1 x2 x3 x4 x5 => roundsOf (E121 N) N121_0 0 B121_0 K n (fill f121_0_sh [.i x1, .i x2, .l x3, .l x4, .l x5])) (fun y1 y2 y3 y4 y5 y6 => K (X.normal) (fill f121_0_ex1 [.b y1, .i y2, .i y3, .l y4, .l y5, .l y6])) x1 x2 x3 x4 x5 := by kernel_rfl
theorem f121_0_lp_eq {R : Type} (N : Nat) (K : X → AS → Option R) : ∀ (n : Nat) (x1 : Int) (x2 : Int) (x3 : List Int) (x4 : List Int) (x5 : List Int), roundsOf (E121 N) N121_0 0 B121_0 K n (fill f121_0_sh [.i x1, .i x2, .l x3, .l x4, .l x5]) = f121_0_lp N (fun y1 y2 y3 y4 y5 y6 => K (X.normal) (fill f121_0_ex1 [.b y1, .i y2, .i y3, .l y4, .l y5, .l y6])) n x1 x2 x3 x4 x5
  | 0, _, _, _, _, _ => rfl
  | n + 1, x1, x2, x3, x4, x5 => by
    rw [f121_0_st_eq, f121_0_lp, show (fun x1 x2 x3 x4 x5 => roundsOf (E121 N) N121_0 0 B121_0 K n (fill f121_0_sh [.i x1, .i x2, .l x3, .l x4, .l x5])) = f121_0_lp N (fun y1 y2 y3 y4 y5 y6 => K (X.normal) (fill f121_0_ex1 [.b y1, .i y2, .i y3, .l y4, .l y5, .l y6])) n from by funext x1 x2 x3 x4 x5; exact f121_0_lp_eq N K n x1 x2 x3 x4 x5]
theorem f121_0_ok (N : Nat) (hlp : LoopsOk Try.prog (E121 N).lp B121_0) (hΓ : CtxOk Try.prog (E121 N).Γ) : LoopOk Try.prog (mkL N121_0 f121_0_sh (f121_0_F N)) 0 B121_0 := by
  refine loopOk_of (E := E121 N) thOk hΓ mixed hlp ?_
  intro R ls K r h
  unfold f121_0_F at h
  split at h
  · exact ⟨N, by rw [f121_0_lp_eq]; exact h⟩
  · cases h

theorem lok121_0 (N : Nat) (hΓ : CtxOk Try.prog []) : LoopOk Try.prog (mkL N121_0 f121_0_sh (f121_0_F N)) 0 B121_0 := f121_0_ok N (loopsOk_of (l := []) (by kernel_rfl) trivial) hΓ
theorem f121_contract (N : Nat) (hΓ : CtxOk Try.prog []) : Contract Try.prog 121 { sig := S121, impl := fun _ ds k => call (E121 N) S121 30 B121 R121 ds k } :=
  call_contract (E := E121 N) thOk hΓ mixed ok121.look ok121.body ok121.n ok121.rv ok121.name rfl (by decide) (loopsOk_of (l := [(0, B121_0)]) (by kernel_rfl) (allOk_cons (L := mkL N121_0 f121_0_sh (f121_0_F N)) rfl (lok121_0 N hΓ) trivial))
theorem f121_raw_eq {R : Type} (N : Nat) (a : List Int) (b : List Int) (k : List DV → Option R) : call (E121 N) S121 30 B121 R121 [.v (.one (.ints .u32 5 a)), .v (.one (.ints .u32 5 b))] k = f121_raw N a b k := by kernel_rfl
end Go.Proofs.Ytiaddnmloonhgaa

/- What rime/rimeref12.plus comes to. MADE BY PROGRAM (wip/tools/mkfn.py, EngGen.lean). -/
namespace Go.Proofs.Ytiaddnmloonhgaa
open Go Go.Eng
set_option maxRecDepth 100000
set_option linter.unusedVariables false

def f66_0_sh : Shp := { n := 29, lo := 2, slots := [(2, .one (.fix (At.ptr 2 0 Off.z 5))), (3, .one (.fix (At.ptr 3 0 Off.z 5))), (4, .one (.fix (At.ptr 4 0 Off.z 5))), (5, .one (.int IntKind.u64)), (6, .one (.int IntKind.i64))], items := [(2, .obj [.ints IntKind.u32 5]), (3, .obj [.ints IntKind.u32 5]), (4, .obj [.ints IntKind.u32 5])] }
def f66_0_ex1 : Shp := { n := 29, lo := 2, slots := [(8, .one (.bool)), (2, .one (.fix (At.ptr 2 0 Off.z 5))), (3, .one (.fix (At.ptr 3 0 Off.z 5))), (4, .one (.fix (At.ptr 4 0 Off.z 5))), (5, .one (.int IntKind.u64)), (6, .one (.int IntKind.i64))], items := [(2, .obj [.ints IntKind.u32 5]), (3, .obj [.ints IntKind.u32 5]), (4, .obj [.ints IntKind.u32 5])] }
noncomputable def f66_0_st {R : Type} (N : Nat) (self : Int → Int → List Int → List Int → List Int → Option R) (k1 : Bool → Int → Int → List Int → List Int → List Int → Option R) (x1 : Int) (x2 : Int) (x3 : List Int) (x4 : List Int) (x5 : List Int) : Option R :=
 bif Decidable.decide (x2 < 5) then
 bif Decidable.decide (0 ≤ x2) && Decidable.decide (x2 < 5) then
 bif Decidable.decide (0 ≤ x2) && Decidable.decide (x2 < 5) then
 bif Decidable.decide (0 ≤ x2) && Decidable.decide (x2 < 5) then
 let v0 : Int := IntKind.u64.wrap (x3.getD (mulE x2.toNat 1) 0);
 let v1 : Int := IntKind.u64.wrap (x1 + v0);
 let v2 : Int := IntKind.u64.wrap (x4.getD (mulE x2.toNat 1) 0);
 let v3 : Int := IntKind.u64.wrap (v1 + v2);
 let v4 : Int := shrI IntKind.u64 v3 32;
 let v5 : Int := IntKind.i64.wrap (x2 + 1);
 let v6 : Int := IntKind.u32.wrap v3;
 let v7 : List Int := x3.set (mulE x2.toNat 1) v6;
 self v4 v5 v7 x4 x5
 else Option.none
 else Option.none
 else Option.none
else k1 (Decidable.decide (x2 < 5)) x1 x2 x3 x4 x5
noncomputable def f66_0_lp {R : Type} (N : Nat) (k1 : Bool → Int → Int → List Int → List Int → List Int → Option R) : Nat → Int → Int → List Int → List Int → List Int → Option R
 | 0, _, _, _, _, _ => none
 | n + 1, x1, x2, x3, x4, x5 => f66_0_st N (f66_0_lp N k1 n) k1 x1 x2 x3 x4 x5
noncomputable def f66_0_F (N : Nat) : (R : Type) → List Leaf → (X → AS → Option R) → Option R := fun _ ls K => match ls with
 | [.i x1, .i x2, .l x3, .l x4, .l x5] => f66_0_lp N (fun y1 y2 y3 y4 y5 y6 => K (X.normal) (fill f66_0_ex1 [.b y1, .i y2, .i y3, .l y4, .l y5, .l y6])) N x1 x2 x3 x4 x5
 | _ => none
noncomputable def f66_raw {R : Type} (N : Nat) (a : List Int) (b : List Int) (k : List DV → Option R) : Option R :=
 f66_0_lp N (fun w0_1 w0_2 w0_3 w0_4 w0_5 w0_6 => k [DV.v (SV.one (At.ints IntKind.u32 5 w0_4))]) N 0 0 a b (List.replicate 5 0)


noncomputable def E66 (N : Nat) : Env := { Θ := Th, Γ := [], K := K66, ν := N66, fuel := 0, lp := [(0, mkL N66_0 f66_0_sh (f66_0_F N))] }

theorem f66_0_st_eq {R : Type} (N : Nat) (K : X → AS → Option R) (n : Nat) (x1 : Int) (x2 : Int) (x3 : List Int) (x4 : List Int) (x5 : List Int) : roundsOf (E66 N) N66_0 0 B66_0 K (n + 1) (fill f66_0_sh [.i x1, .i x2, .l x3, .l x4, .l x5]) = f66_0_st N (fun x1 x2 x3 x4 x5 => roundsOf (E66 N) N66_0 0 B66_0 K n (fill f66_0_sh [.i x1, .i x2, .l x3, .l x4, .l x5])) (fun y1 y2 y3 y4 y5 y6 => K (X.normal) (fill f66_0_ex1 [.b y1, .i y2, .i y3, .l y4, .l y5, .l y6])) x1 x2 x3 x4 x5 := by kernel_rfl
theorem f66_0_lp_eq {R : Type} (N : Nat) (K : X → AS → Option R) : ∀ (n : Nat) (x1 : Int) (x2 : Int) (x3 : List Int) (x4 : List Int) (x5 : List Int), roundsOf (E66 N) N66_0 0 B66_0 K n (fill f66_0_sh [.i x1, .i x2, .l x3, .l x4, .l x5]) = f66_0_lp N (fun y1 y2 y3 y4 y5 y6 => K (X.normal) (fill f66_0_ex1 [.b y1, .i y2, .i y3, .l y4, .l y5, .l y6])) n x1 x2 x3 x4 x5
  | 0, _, _, _, _, _ => rfl
  | n + 1, x1, x2, x3, x4, x5 => by
    rw [f66_0_st_eq, f66_0_lp, show (fun x1 x2 x3 x4 x5 => roundsOf (E66 N) N66_0 0 B66_0 K n (fill f66_0_sh [.i x1, .i x2, .l x3, .l x4, .l x5])) = f66_0_lp N (fun y1 y2 y3 y4 y5 y6 => K (X.normal) (fill f66_0_ex1 [.b y1, .i y2, .i y3, .l y4, .l y5, .l y6])) n from by funext x1 x2 x3 x4 x5; exact f66_0_lp_eq N K n x1 x2 x3 x4 x5]
theorem f66_0_ok (N : Nat) (hlp : LoopsOk Try.prog (E66 N).lp B66_0) (hΓ : CtxOk Try.prog (E66 N).Γ) : LoopOk Try.prog (mkL N66_0 f66_0_sh (f66_0_F N)) 0 B66_0 := by
  refine loopOk_of (E := E66 N) thOk hΓ mixed hlp ?_
  intro R ls K r h
  unfold f66_0_F at h
  split at h
  · exact ⟨N, by rw [f66_0_lp_eq]; exact h⟩
  · cases h

theorem lok66_0 (N : Nat) (hΓ : CtxOk Try.prog []) : LoopOk Try.prog (mkL N66_0 f66_0_sh (f66_0_F N)) 0 B66_0 := f66_0_ok N (loopsOk_of (l := []) (by kernel_rfl) trivial) hΓ
theorem f66_contract (N : Nat) (hΓ : CtxOk Try.prog []) : Contract Try.prog 66 { sig := S66, impl := fun _ ds k => call (E66 N) S66 29 B66 R66 ds k } :=
  call_contract (E := E66 N) thOk hΓ mixed ok66.look ok66.body ok66.n ok66.rv ok66.name rfl (by decide) (loopsOk_of (l := [(0, B66_0)]) (by kernel_rfl) (allOk_cons (L := mkL N66_0 f66_0_sh (f66_0_F N)) rfl (lok66_0 N hΓ) trivial))
theorem f66_raw_eq {R : Type} (N : Nat) (a : List Int) (b : List Int) (k : List DV → Option R) : call (E66 N) S66 29 B66 R66 [.v (.one (.ints .u32 5 a)), .v (.one (.ints .u32 5 b))] k = f66_raw N a b k := by kernel_rfl
end Go.Proofs.Ytiaddnmloonhgaa

/- What rime/rimeref12.number comes to. MADE BY PROGRAM (wip/tools/mkfn.py, EngGen.lean). -/
namespace Go.Proofs.Ytiaddnmloonhgaa
open Go Go.Eng
set_option maxRecDepth 100000
set_option linter.unusedVariables false

def f64_0_sh : Shp := { n := 30, lo := 1, slots := [(0, .one (.fix (At.own 0))), (2, .one (.fix (At.ptr 2 0 Off.z 5))), (3, .one (.fix (At.ptr 3 0 Off.z 5))), (4, .one (.int IntKind.i64))], items := [(0, .view IntKind.u8 1), (2, .obj [.ints IntKind.u32 5]), (3, .obj [.ints IntKind.u32 5])] }
def f64_0_ex1 : Shp := { n := 30, lo := 1, slots := [(8, .one (.bool)), (0, .one (.fix (At.own 0))), (2, .one (.fix (At.ptr 2 0 Off.z 5))), (3, .one (.fix (At.ptr 3 0 Off.z 5))), (4, .one (.int IntKind.i64))], items := [(0, .view IntKind.u8 1), (2, .obj [.ints IntKind.u32 5]), (3, .obj [.ints IntKind.u32 5])] }
noncomputable def f64_0_st {R : Type} (N : Nat) (self : Int → List Int → List Int → List Int → Option R) (k1 : Bool → Int → List Int → List Int → List Int → Option R) (x1 : Int) (x2 : List Int) (x3 : List Int) (x4 : List Int) : Option R :=
 bif Decidable.decide (x1 < nI (rowLen 1 x2)) then
 let v0 : Int := IntKind.i64.wrap (x1.tdiv 4);
 bif Decidable.decide (0 ≤ v0) && Decidable.decide (v0 < 5) then
 bif Decidable.decide (0 ≤ x1) && Decidable.decide (x1 < nI (rowLen 1 x2)) then
 let v1 : Int := IntKind.i64.wrap (8 * x1.tmod 4);
 let v2 : Int := IntKind.u64.wrap v1;
 bif Decidable.decide (0 ≤ v2) then
 bif Decidable.decide (0 ≤ v0) && Decidable.decide (v0 < 5) then
 let v3 : Int := IntKind.i64.wrap (x1 + 1);
 let v4 : Int := IntKind.u32.wrap (x2.getD (mulE x1.toNat 1) 0);
 let v5 : Int := shlI IntKind.u32 v4 v2;
 let v6 : Int := orI IntKind.u32 (x4.getD (mulE v0.toNat 1) 0) v5;
 let v7 : List Int := x4.set (mulE v0.toNat 1) v6;
 self v3 x2 x3 v7
 else Option.none
 else Option.none
 else Option.none
 else Option.none
else k1 (Decidable.decide (x1 < nI (rowLen 1 x2))) x1 x2 x3 x4
noncomputable def f64_0_lp {R : Type} (N : Nat) (k1 : Bool → Int → List Int → List Int → List Int → Option R) : Nat → Int → List Int → List Int → List Int → Option R
 | 0, _, _, _, _ => none
 | n + 1, x1, x2, x3, x4 => f64_0_st N (f64_0_lp N k1 n) k1 x1 x2 x3 x4
noncomputable def f64_0_F (N : Nat) : (R : Type) → List Leaf → (X → AS → Option R) → Option R := fun _ ls K => match ls with
 | [.i x1, .l x2, .l x3, .l x4] => f64_0_lp N (fun y1 y2 y3 y4 y5 => K (X.normal) (fill f64_0_ex1 [.b y1, .i y2, .l y3, .l y4, .l y5])) N x1 x2 x3 x4
 | _ => none
noncomputable def f64_raw {R : Type} (N : Nat) (b : List Int) (k : List DV → Option R) : Option R :=
 f64_0_lp N (fun w0_1 w0_2 w0_3 w0_4 w0_5 => k [DV.v (SV.one (At.ints IntKind.u32 5 w0_5))]) N 0 b (List.replicate 5 0) (List.replicate 5 0)


noncomputable def E64 (N : Nat) : Env := { Θ := Th, Γ := [], K := K64, ν := N64, fuel := 0, lp := [(0, mkL N64_0 f64_0_sh (f64_0_F N))] }

theorem f64_0_st_eq {R : Type} (N : Nat) (K : X → AS → Option R) (n : Nat) (x1 : Int) (x2 : List Int) (x3 : List Int) (x4 : List Int) : roundsOf (E64 N) N64_0 0 B64_0 K (n + 1) (fill f64_0_sh [.i x1, .l x2, .l x3, .l x4]) = f64_0_st N (fun x1 x2 x3 x4 => roundsOf (E64 N) N64_0 0 B64_0 K n (fill f64_0_sh [.i x1, .l x2, .l x3, .l x4])) (fun y1 y2 y3 y4 y5 => K (X.normal) (fill f64_0_ex1 [.b y1, .i y2, .l y3, .l y4, .l y5])) x1 x2 x3 x4 := by kernel_rfl
theorem f64_0_lp_eq {R : Type} (N : Nat) (K : X → AS → Option R) : ∀ (n : Nat) (x1 : Int) (x2 : List Int) (x3 : List Int) (x4 : List Int), roundsOf (E64 N) N64_0 0 B64_0 K n (fill f64_0_sh [.i x1, .l x2, .l x3, .l x4]) = f64_0_lp N (fun y1 y2 y3 y4 y5 => K (X.normal) (fill f64_0_ex1 [.b y1, .i y2, .l y3, .l y4, .l y5])) n x1 x2 x3 x4
  | 0, _, _, _, _ => rfl
  | n + 1, x1, x2, x3, x4 => by
    rw [f64_0_st_eq, f64_0_lp, show (fun x1 x2 x3 x4 => roundsOf (E64 N) N64_0 0 B64_0 K n (fill f64_0_sh [.i x1, .l x2, .l x3, .l x4])) = f64_0_lp N (fun y1 y2 y3 y4 y5 => K (X.normal) (fill f64_0_ex1 [.b y1, .i y2, .l y3, .l y4, .l y5])) n from by funext x1 x2 x3 x4; exact f64_0_lp_eq N K n x1 x2 x3 x4]
theorem f64_0_ok (N : Nat) (hlp : LoopsOk Try.prog (E64 N).lp B64_0) (hΓ : CtxOk Try.prog (E64 N).Γ) : LoopOk Try.prog (mkL N64_0 f64_0_sh (f64_0_F N)) 0 B64_0 := by
  refine loopOk_of (E := E64 N) thOk hΓ mixed hlp ?_
  intro R ls K r h
  unfold f64_0_F at h
  split at h
  · exact ⟨N, by rw [f64_0_lp_eq]; exact h⟩
  · cases h

theorem lok64_0 (N : Nat) (hΓ : CtxOk Try.prog []) : LoopOk Try.prog (mkL N64_0 f64_0_sh (f64_0_F N)) 0 B64_0 := f64_0_ok N (loopsOk_of (l := []) (by kernel_rfl) trivial) hΓ
theorem f64_contract (N : Nat) (hΓ : CtxOk Try.prog []) : Contract Try.prog 64 { sig := S64, impl := fun _ ds k => call (E64 N) S64 30 B64 R64 ds k } :=
  call_contract (E := E64 N) thOk hΓ mixed ok64.look ok64.body ok64.n ok64.rv ok64.name rfl (by decide) (loopsOk_of (l := [(0, B64_0)]) (by kernel_rfl) (allOk_cons (L := mkL N64_0 f64_0_sh (f64_0_F N)) rfl (lok64_0 N hΓ) trivial))
theorem f64_raw_eq {R : Type} (N : Nat) (b : List Int) (k : List DV → Option R) : call (E64 N) S64 30 B64 R64 [.lst .u8 1 b] k = f64_raw N b k := by kernel_rfl
end Go.Proofs.Ytiaddnmloonhgaa

/- What rime/rimeref12.low comes to. MADE BY PROGRAM (wip/tools/mkfn.py, EngGen.lean). -/
namespace Go.Proofs.Ytiaddnmloonhgaa
open Go Go.Eng
set_option maxRecDepth 100000
set_option linter.unusedVariables false

noncomputable def f45_raw {R : Type} (N : Nat) (b : List Int) (k : List DV → Option R) : Option R :=
 bif Decidable.decide (0 ≤ 0) && Decidable.decide (0 < nI (rowLen 1 b)) then
 bif Decidable.decide (0 ≤ 1) && Decidable.decide (1 < nI (rowLen 1 b)) then
 bif Decidable.decide (0 ≤ 2) && Decidable.decide (2 < nI (rowLen 1 b)) then
 bif Decidable.decide (0 ≤ 3) && Decidable.decide (3 < nI (rowLen 1 b)) then
 let v0 : Int := IntKind.u32.wrap (b.getD (mulE (Int.toNat 0) 1) 0);
 let v1 : Int := IntKind.u32.wrap (b.getD (mulE (Int.toNat 1) 1) 0);
 let v2 : Int := shlI IntKind.u32 v1 8;
 let v3 : Int := orI IntKind.u32 v0 v2;
 let v4 : Int := IntKind.u32.wrap (b.getD (mulE (Int.toNat 2) 1) 0);
 let v5 : Int := shlI IntKind.u32 v4 16;
 let v6 : Int := orI IntKind.u32 v3 v5;
 let v7 : Int := IntKind.u32.wrap (b.getD (mulE (Int.toNat 3) 1) 0);
 let v8 : Int := shlI IntKind.u32 v7 24;
 let v9 : Int := orI IntKind.u32 v6 v8;
 k [DV.v (SV.one (At.int IntKind.u32 v9))]
 else Option.none
 else Option.none
 else Option.none
else Option.none


noncomputable def E45 (N : Nat) : Env := { Θ := Th, Γ := [], K := K45, ν := N45, fuel := 60, lp := [] }


theorem f45_contract (N : Nat) (hΓ : CtxOk Try.prog []) : Contract Try.prog 45 { sig := S45, impl := fun _ ds k => call (E45 N) S45 25 B45 R45 ds k } :=
  call_contract (E := E45 N) thOk hΓ mixed ok45.look ok45.body ok45.n ok45.rv ok45.name rfl (by decide) (loopsOk_of (l := []) (by kernel_rfl) trivial)
theorem f45_raw_eq {R : Type} (N : Nat) (b : List Int) (k : List DV → Option R) : call (E45 N) S45 25 B45 R45 [.lst .u8 1 b] k = f45_raw N b k := by kernel_rfl
end Go.Proofs.Ytiaddnmloonhgaa

/- What rime/rimeref12.turned comes to. MADE BY PROGRAM (wip/tools/mkfn.py, EngGen.lean). -/
namespace Go.Proofs.Ytiaddnmloonhgaa
open Go Go.Eng
set_option maxRecDepth 100000
set_option linter.unusedVariables false

noncomputable def f93_raw {R : Type} (N : Nat) (x : Int) (n : Int) (k : List DV → Option R) : Option R :=
 bif Decidable.decide (0 ≤ n) then
 let v0 : Int := IntKind.u64.wrap (32 - n);
 bif Decidable.decide (0 ≤ v0) then
 let v1 : Int := shlI IntKind.u32 x n;
 let v2 : Int := shrI IntKind.u32 x v0;
 let v3 : Int := orI IntKind.u32 v1 v2;
 k [DV.v (SV.one (At.int IntKind.u32 v3))]
 else Option.none
else Option.none


noncomputable def E93 (N : Nat) : Env := { Θ := Th, Γ := [], K := K93, ν := N93, fuel := 60, lp := [] }


theorem f93_contract (N : Nat) (hΓ : CtxOk Try.prog []) : Contract Try.prog 93 { sig := S93, impl := fun _ ds k => call (E93 N) S93 13 B93 R93 ds k } :=
  call_contract (E := E93 N) thOk hΓ mixed ok93.look ok93.body ok93.n ok93.rv ok93.name rfl (by decide) (loopsOk_of (l := []) (by kernel_rfl) trivial)
theorem f93_raw_eq {R : Type} (N : Nat) (x : Int) (n : Int) (k : List DV → Option R) : call (E93 N) S93 13 B93 R93 [.v (.one (.int .u32 x)), .v (.one (.int .u64 n))] k = f93_raw N x n k := by kernel_rfl
end Go.Proofs.Ytiaddnmloonhgaa

/- What rime/rimelaw12.works comes to. MADE BY PROGRAM (wip/tools/mkfn.py, EngGen.lean). -/
namespace Go.Proofs.Ytiaddnmloonhgaa
open Go Go.Eng
set_option maxRecDepth 100000
set_option linter.unusedVariables false

def f23_raw {R : Type} (N : Nat)  (k : List DV → Option R) : Option R :=
 let v0 : List Int := (Go.Eng.zerosOf (1 * 1)).set 0 97;
let v1 : List Int := (Go.Eng.zerosOf (4 * 1)).set 0 116;
let v2 : List Int := v1.set 1 101;
let v3 : List Int := v2.set 2 120;
let v4 : List Int := v3.set 3 116;
let v5 : Bool := bif Go.Eng.nI (Go.Eng.rowLen 1 (Go.Proofs.Ytiaddnmloonhgaa.sealL (List.replicate 32 0) (List.replicate 12 0) v0 v4)) == 20 then (Go.Proofs.Ytiaddnmloonhgaa.openL (List.replicate 32 0) (List.replicate 12 0) v0 (Go.Proofs.Ytiaddnmloonhgaa.sealL (List.replicate 32 0) (List.replicate 12 0) v0 v4)).snd == 0 else Bool.false;
let v6 : Bool := bif v5 then (Go.Eng.mkBytes (Go.Proofs.Ytiaddnmloonhgaa.openL (List.replicate 32 0) (List.replicate 12 0) v0 (Go.Proofs.Ytiaddnmloonhgaa.sealL (List.replicate 32 0) (List.replicate 12 0) v0 v4)).fst).toList == (ByteArray.mk #[116, 101, 120, 116]).toList else Bool.false;
let v7 : List Int := (Go.Eng.zerosOf (1 * 1)).set 0 98;
let v8 : Bool := bif v6 then (Go.Proofs.Ytiaddnmloonhgaa.openL (List.replicate 32 0) (List.replicate 12 0) v7 (Go.Proofs.Ytiaddnmloonhgaa.sealL (List.replicate 32 0) (List.replicate 12 0) v0 v4)).snd == 121 else Bool.false;
k [Go.Eng.DV.v (Go.Eng.SV.one (Go.Eng.At.bool v8))]


noncomputable def E23 (N : Nat) : Env := { Θ := Th, Γ := G23, K := K23, ν := N23, fuel := 0, lp := [] }


theorem f23_contract (N : Nat) (hΓ : CtxOk Try.prog G23) : Contract Try.prog 23 { sig := S23, impl := fun _ ds k => call (E23 N) S23 51 B23 R23 ds k } :=
  call_contract (E := E23 N) thOk hΓ mixed ok23.look ok23.body ok23.n ok23.rv ok23.name rfl (by decide) (loopsOk_of (l := []) (by kernel_rfl) trivial)
theorem f23_raw_eq {R : Type} (N : Nat)  (k : List DV → Option R) : call (E23 N) S23 51 B23 R23 [] k = f23_raw N  k := by kernel_rfl
end Go.Proofs.Ytiaddnmloonhgaa

/- A text sealed is opened; with a bit turned it is not. -/
namespace Go.Proofs.Ytiaddnmloonhgaa
open Go Go.Eng
set_option maxRecDepth 100000

def z32 : List Int := List.replicate 32 0
def z12 : List Int := List.replicate 12 0
def textB : List Int := [116, 101, 120, 116]

theorem tag_unlike : (tagL z32 z12 [98] (streamL z32 1 z12 textB) == tagL z32 z12 [97] (streamL z32 1 z12 textB)) = false := by decide +kernel

theorem textB_bytes : Bytes textB := by
  intro x hx
  simp only [textB, List.mem_cons, List.not_mem_nil, or_false] at hx
  omega

theorem open_other : openL z32 z12 [98] (sealL z32 z12 [97] textB) = ([], 121) := by
  have hl : (streamL z32 1 z12 textB).length = 4 := streamL_length _ _ _ _
  unfold openL
  rw [sealL_length]
  rw [if_neg (show ¬ textB.length + 16 < 16 by decide)]
  rw [sealL_eq]
  rw [show textB.length + 16 - 16 = 4 from rfl, List.take_left' hl, List.drop_left' hl, List.take_of_length_le (by rw [tagL_length]; omega), if_neg]
  intro h
  have := tag_unlike
  rw [h] at this
  simp at this

theorem works_true {R : Type} (k : List DV → Option R) : f23_raw 0 k = k [.v (.one (.bool true))] := by
  have e1 := open_seal z32 z12 [97] textB_bytes
  have e2 := open_other
  have e3 := sealL_length z32 z12 [97] textB
  unfold f23_raw
  simp only []
  rw [show (zerosOf (1 * 1)).set 0 97 = [97] from rfl, show (zerosOf (1 * 1)).set 0 98 = [98] from rfl, show ((((zerosOf (4 * 1)).set 0 116).set 1 101).set 2 120).set 3 116 = textB from rfl]
  rw [show (List.replicate 32 0 : List Int) = z32 from rfl, show (List.replicate 12 0 : List Int) = z12 from rfl]
  rw [e1, e2, rowLen_one, e3]
  rw [show mkBytes (textB, (0 : Int)).fst = ByteArray.mk #[116, 101, 120, 116] from rfl]
  rw [show ((ByteArray.mk #[116, 101, 120, 116]).toList == (ByteArray.mk #[116, 101, 120, 116]).toList) = true from beq_self_eq_true _]
  rfl

theorem c23 : Contract Try.prog 23 { sig := S23, impl := I23 } := by
  refine Contract.refine fun R ds k r h => ⟨_, f23_contract 0 G23_ok, ?_⟩
  unfold I23 at h
  split at h
  · rw [f23_raw_eq, works_true]; exact h
  · cases h

theorem G6_ok : CtxOk Try.prog G6 := ctxOk_cons ok16 rfl c16 (ctxOk_cons ok20 rfl c20 (ctxOk_cons ok23 rfl c23 (ctxOk_cons ok24 rfl c24 (ctxOk_cons ok26 rfl c26 (ctxOk_cons ok28 rfl c28 (ctxOk_cons ok18 rfl c18 (ctxOk_cons ok30 rfl c30 ctxOk_nil)))))))
end Go.Proofs.Ytiaddnmloonhgaa

/- The engine: what a piece of code does not look at stays as it is. -/
namespace Go.Eng
open Go

def partI (K : List Nat) : List (Nat × Item) → List (Nat × Item)
  | [] => []
  | (n, it) :: l => match memN n K with | true => (n, it) :: partI K l | false => partI K l
def partO (K : List Nat) : List (Nat × Item) → List (Nat × Item)
  | [] => []
  | (n, it) :: l => match memN n K with | true => partO K l | false => (n, it) :: partO K l

theorem find_partI {K : List Nat} {n : Nat} : ∀ {l : List (Nat × Item)}, findI n (partI K l) = if n ∈ K then findI n l else none
  | [] => by simp [partI, findI]
  | (u, it) :: l => by
    simp only [partI]
    split
    · rename_i h
      rw [findI_cons, findI_cons, find_partI (l := l)]
      by_cases e : n = u
      · subst e; simp [memN_iff.1 h]
      · simp [e]
    · rename_i h
      rw [findI_cons, find_partI (l := l)]
      by_cases e : n = u
      · subst e; simp [memN_false.1 h]
      · simp [e]
theorem find_partO {K : List Nat} {n : Nat} : ∀ {l : List (Nat × Item)}, findI n (partO K l) = if n ∈ K then none else findI n l
  | [] => by simp [partO, findI]
  | (u, it) :: l => by
    simp only [partO]
    split
    · rename_i h
      rw [findI_cons, find_partO (l := l)]
      by_cases e : n = u
      · subst e; simp [memN_iff.1 h]
      · simp [e]
    · rename_i h
      rw [findI_cons, findI_cons, find_partO (l := l)]
      by_cases e : n = u
      · subst e; simp [memN_false.1 h]
      · simp [e]
theorem names_partI {K : List Nat} {n : Nat} : ∀ {l : List (Nat × Item)}, n ∈ putNames (partI K l) → n ∈ putNames l ∧ n ∈ K
  | [], h => by cases h
  | (u, it) :: l, h => by
    simp only [partI] at h
    split at h
    · rename_i hk
      rcases List.mem_cons.1 h with e | h
      · subst e; exact ⟨.head _, memN_iff.1 hk⟩
      · have := names_partI h; exact ⟨.tail _ this.1, this.2⟩
    · have := names_partI h; exact ⟨.tail _ this.1, this.2⟩
theorem names_partO {K : List Nat} {n : Nat} : ∀ {l : List (Nat × Item)}, n ∈ putNames (partO K l) → n ∈ putNames l ∧ n ∉ K
  | [], h => by cases h
  | (u, it) :: l, h => by
    simp only [partO] at h
    split at h
    · have := names_partO h; exact ⟨.tail _ this.1, this.2⟩
    · rename_i hk
      rcases List.mem_cons.1 h with e | h
      · subst e; exact ⟨.head _, memN_false.1 hk⟩
      · have := names_partO h; exact ⟨.tail _ this.1, this.2⟩
theorem nodup_partI {K : List Nat} : ∀ {l : List (Nat × Item)}, Nodup' l → Nodup' (partI K l)
  | [], _ => trivial
  | (u, it) :: l, ⟨h1, h2⟩ => by
    simp only [partI]
    split
    · exact ⟨fun h => h1 (names_partI h).1, nodup_partI h2⟩
    · exact nodup_partI h2
theorem nodup_partO {K : List Nat} : ∀ {l : List (Nat × Item)}, Nodup' l → Nodup' (partO K l)
  | [], _ => trivial
  | (u, it) :: l, ⟨h1, h2⟩ => by
    simp only [partO]
    split
    · exact nodup_partO h2
    · exact ⟨fun h => h1 (names_partO h).1, nodup_partO h2⟩

/-- values that may stand beside what stays -/
def sideA (Fr : List (Nat × Item)) : At → Bool
  | .ptr n b o z => match findI n Fr with
    | none => true
    | some it => match o, it with | .z, .obj _ => true | _, _ => false
  | a => disj a.names (putNames Fr)
def sideV (Fr : List (Nat × Item)) : AV → Bool
  | .s (.one a) => sideA Fr a
  | v => disj v.names (putNames Fr)
def sideT (Fr : List (Nat × Item)) : List (Nat × AV) → Bool
  | [] => true
  | (_, v) :: l => sideV Fr v && sideT Fr l
/-- what is not its own was there before -/
def sideI (lo : Nat) (is : List (Nat × Item)) : List (Nat × Item) → Bool
  | [] => true
  | (n, it) :: l => (match it.own? with | true => true | false => memN n (putNames is) && (Nat.blt n lo || Nat.ble hiN n)) && sideI lo is l

def pinsN (lo : Nat) : List Nat → Bool
  | [] => true
  | n :: l => (Nat.blt n lo || Nat.ble hiN n) && pinsN lo l

theorem pinsN_mem {lo n : Nat} : ∀ {l : List Nat}, pinsN lo l = true → n ∈ l → n < lo ∨ hiN ≤ n
  | m :: l, h, hm => by
    simp only [pinsN, Bool.and_eq_true, Bool.or_eq_true] at h
    rcases List.mem_cons.1 hm with e | hm
    · subst e
      rcases h.1 with h | h
      · left
        have := ble_iff.1 (show Nat.ble (n + 1) lo = true from h); omega
      · right; exact ble_iff.1 h
    · exact pinsN_mem h.2 hm

theorem sideT_mem {Fr : List (Nat × Item)} {t : Nat} {v : AV} : ∀ {l : List (Nat × AV)}, sideT Fr l = true → (t, v) ∈ l → sideV Fr v = true
  | (u, x) :: l, h, hm => by
    simp only [sideT, Bool.and_eq_true] at h
    rcases List.mem_cons.1 hm with e | hm
    · injection e with e1 e2; subst e2; exact h.1
    · exact sideT_mem h.2 hm
theorem sideI_mem {lo : Nat} {is : List (Nat × Item)} {n : Nat} {it : Item} : ∀ {l : List (Nat × Item)}, sideI lo is l = true → (n, it) ∈ l → it.owned = false → n ∈ putNames is ∧ (n < lo ∨ hiN ≤ n)
  | (u, x) :: l, h, hm, ho => by
    simp only [sideI, Bool.and_eq_true] at h
    rcases List.mem_cons.1 hm with e | hm
    · injection e with e1 e2; subst e1; subst e2
      have h1 := h.1
      cases it with
      | view k es xs =>
        simp only [Item.own?, Bool.and_eq_true, Bool.or_eq_true] at h1
        refine ⟨memN_iff.1 h1.1, ?_⟩
        rcases h1.2 with h | h
        · left
          have := ble_iff.1 (show Nat.ble (n + 1) lo = true from h); omega
        · right; exact ble_iff.1 h
      | _ => cases ho
    · exact sideI_mem h.2 hm ho

theorem nodup_apart {l m : List (Nat × Item)} : Nodup' (l ++ m) → Nodup' l ∧ Nodup' m ∧ ∀ n ∈ putNames l, n ∉ putNames m := by
  induction l with
  | nil => intro h; exact ⟨trivial, h, by simp [putNames]⟩
  | cons x l ih =>
    obtain ⟨u, v⟩ := x
    rintro ⟨h1, h2⟩
    obtain ⟨g1, g2, g3⟩ := ih h2
    have h1 : u ∉ putNames (l ++ m) := h1
    rw [putNames_append, List.mem_append, not_or] at h1
    refine ⟨⟨h1.1, g1⟩, g2, fun n hn => ?_⟩
    rcases List.mem_cons.1 hn with e | hn
    · subst e; exact h1.2
    · exact g3 n hn

theorem find_app {l m : List (Nat × Item)} {n : Nat} {it : Item} (h : findI n (l ++ m) = some it) : findI n l = some it ∨ (findI n l = none ∧ findI n m = some it) := by
  rw [findI_append] at h
  cases hl : findI n l with
  | some x => rw [hl] at h; exact .inl h
  | none => rw [hl] at h; exact .inr ⟨rfl, h⟩

theorem none_of {l : List (Nat × Item)} {n : Nat} (h : findI n l = none) : n ∉ putNames l := findI_none_iff.1 h

theorem find_names {l : List (Nat × Item)} {n : Nat} {it : Item} (h : findI n l = some it) : n ∈ putNames l := putNames_iff.2 ⟨it, findI_mem h⟩

theorem reaches_frame {P : Program} {c : Code} {s1 s' : AS} {e : X} (h : Reaches P c s1 e s') {Fr : List (Nat × Item)} (hlo : s'.lo = s1.lo) (hnd : Nodup' (s1.items ++ Fr)) (hnd' : Nodup' (s'.items ++ Fr))
    (hpin : pinsN s1.lo (putNames Fr) = true) (hcl : allIn (putSays' Fr) (putNames Fr) = true) (ht : sideT Fr s'.tmps = true) (hi : disj (putSays' s'.items) (putNames Fr) = true) (hv : sideI s'.lo s1.items s'.items = true) :
    Reaches P c { s1 with items := s1.items ++ Fr } e { s' with items := s'.items ++ Fr } := by
  refine reaches_iff.2 fun w0 Mu ρ a w Q hs hQ => ?_
  obtain ⟨n1, n2, n3⟩ := nodup_apart hnd
  obtain ⟨n1', n2', n3'⟩ := nodup_apart hnd'
  rw [disj_iff] at hi
  rw [allIn_iff] at hcl
  -- the whole at the start
  have hI1 : ∀ n it, s1.I n = some it → AS.I { s1 with items := s1.items ++ Fr } n = some it := by
    intro n it h
    show findI n (s1.items ++ Fr) = some it
    rw [findI_append, show findI n s1.items = some it from h]
  have hIF : ∀ n it, findI n Fr = some it → AS.I { s1 with items := s1.items ++ Fr } n = some it := by
    intro n it h
    show findI n (s1.items ++ Fr) = some it
    rw [findI_append, findI_none (fun hm => n3 n hm (find_names h))]; exact h
  have hS1 : ∀ n, s1.S n = AS.S { s1 with items := s1.items ++ Fr } n ∨ s1.S n = none := by
    intro n
    unfold AS.S
    cases hh : s1.I n with
    | none => exact .inr rfl
    | some it => left; rw [hI1 n it hh]
  let Mu1 : MuT := { blk := fun b => ∃ n it p, s1.I n = some it ∧ it.owned = true ∧ ρ.loc n = some p ∧ p.1 = b, loc := ρ.loc, tot := ρ.tot, sh := s1.S }
  have hs1 : Sim w Mu1 ρ s1 a w := by
    refine ⟨hs.defers, n1, hs.size, ?_, ?_, ?_, ?_, ?_, Nat.le_refl _, fun _ _ _ => rfl, fun n _ => ⟨rfl, rfl, .inl rfl⟩, rfl, rfl⟩
    · intro t
      exact (hs.rel t).frame fun n _ => ⟨rfl, rfl, hS1 n⟩
    · intro n it hh
      exact (hs.hold n it (hI1 n it hh)).frame ⟨rfl, rfl⟩ (fun m _ => ⟨rfl, rfl, hS1 m⟩) (fun _ _ => rfl)
    · intro n it p hh ho hp; exact .inr ⟨n, it, p, hh, ho, hp, rfl⟩
    · intro n m it it' p q h1 h2 ho hne hp hq; exact hs.sep n m it it' p q (hI1 _ _ h1) (hI1 _ _ h2) ho hne hp hq
    · intro n it p h1 hp; exact hs.lt n it p (hI1 _ _ h1) hp
  refine reaches_iff.1 h w Mu1 ρ a w Q hs1 fun a' w' ρ' hs' => hQ a' w' ρ' ?_
  -- the whole at the end
  have hFpin : ∀ n, n ∈ putNames Fr → ρ'.loc n = ρ.loc n ∧ ρ'.tot n = ρ.tot n := by
    intro n hn
    have := hs'.pin n (by rw [hlo]; exact pinsN_mem hpin hn)
    exact ⟨this.1, this.2.1⟩
  have hI' : ∀ n it, AS.I { s' with items := s'.items ++ Fr } n = some it → s'.I n = some it ∨ (n ∉ putNames s'.items ∧ findI n Fr = some it) := by
    intro n it hh
    rcases find_app (show findI n (s'.items ++ Fr) = some it from hh) with h1 | ⟨h1, h2⟩
    · exact .inl h1
    · exact .inr ⟨none_of h1, h2⟩
  have hSout : ∀ n, n ∉ putNames Fr → AS.S { s' with items := s'.items ++ Fr } n = s'.S n := by
    intro n hn
    unfold AS.S
    show (findI n (s'.items ++ Fr)).map Item.shape = (findI n s'.items).map Item.shape
    rw [findI_append]
    cases hh : findI n s'.items with
    | some it => rfl
    | none => rw [findI_none hn]
  have hSin : ∀ n, n ∈ putNames Fr → AS.S { s' with items := s'.items ++ Fr } n = AS.S { s1 with items := s1.items ++ Fr } n := by
    intro n hn
    unfold AS.S
    show (findI n (s'.items ++ Fr)).map Item.shape = (findI n (s1.items ++ Fr)).map Item.shape
    rw [findI_append, findI_append, findI_none (fun hm => n3 n hm hn), findI_none (fun hm => n3' n hm hn)]
  have hne : ∀ n m p q it, n ∈ putNames s1.items → s1.I n = some it → it.owned = true → ρ.loc n = some p → m ∈ putNames Fr → ρ.loc m = some q → p.1 ≠ q.1 := by
    intro n m p q it hn h1 ho hp hm hq
    obtain ⟨it', h2⟩ := putNames_iff.1 hm
    cases hf : findI m Fr with
    | none => exact absurd hm (none_of hf)
    | some jt => exact hs.sep n m it jt p q (hI1 n it h1) (hIF m jt hf) ho (fun e => n3 n hn (e ▸ hm)) hp hq
  have hagree : ∀ n, n ∉ putNames Fr → Agree ρ' ρ' s'.S (AS.S { s' with items := s'.items ++ Fr }) n := fun n hn => ⟨rfl, rfl, .inl (hSout n hn)⟩
  have hFheap : ∀ n q, n ∈ putNames Fr → ρ.loc n = some q → w'.heap[q.1]? = w.heap[q.1]? ∧ q.1 < w.heap.size := by
    intro n q hn hq
    have hlt : q.1 < w.heap.size := by
      cases hf : findI n Fr with
      | none => exact absurd hn (none_of hf)
      | some jt => exact hs.lt n jt q (hIF n jt hf) hq
    refine ⟨hs'.frame q.1 hlt ?_, hlt⟩
    rintro ⟨m, it, p, h1, h2, h3, h4⟩
    exact hne m n p q it (find_names h1) h1 h2 h3 hn hq h4
  refine ⟨hs'.defers, hnd', hs'.size, ?_, ?_, ?_, ?_, ?_, Nat.le_trans hs.mono hs'.mono, ?_, ?_, ?_⟩
  · intro t
    show RelV ρ' _ (findT t s'.tmps) _
    have hr := hs'.rel t
    rcases findT_mem (t := t) (l := s'.tmps) with e | hm
    · rw [e]; exact relDead _ _ _
    · have hsd := sideT_mem ht hm
      change RelV ρ' s'.S (findT t s'.tmps) _ at hr
      revert hr hsd
      generalize findT t s'.tmps = v
      intro hsd hr
      have plain : disj v.names (putNames Fr) = true → RelV ρ' (AS.S { s' with items := s'.items ++ Fr }) v (a'.tmps.getD t undef) :=
        fun hd => hr.frame fun n hn => hagree n (disj_iff.1 hd n hn)
      unfold sideV at hsd
      split at hsd
      · rename_i at0
        unfold sideA at hsd
        split at hsd
        · rename_i n b o z
          split at hsd
          · rename_i hf
            exact hr.frame fun m hm => by
              have : m = n := by simpa [AV.names, SV.names, At.names] using hm
              subst this; exact hagree m (none_of hf)
          · rename_i it hf
            split at hsd
            · rename_i l
              simp only [RelV, RelSV, RelAt] at hr ⊢
              obtain ⟨p, r1, r2, r3⟩ := hr
              refine ⟨p, r1, r2, ?_⟩
              intro sh hsh L hL
              rw [hSin n (find_names hf)] at hsh
              have : AS.S { s1 with items := s1.items ++ Fr } n = some (Item.obj l).shape := S_of (hIF n _ hf)
              rw [this] at hsh
              injection hsh with hsh
              subst hsh
              intro hc; simp [Item.shape, Shape.isObj] at hc
            · cases hsd
        · exact plain hsd
      · exact plain hsd
  · intro n it hh
    rcases hI' n it hh with h1 | ⟨h1, h2⟩
    · refine (hs'.hold n it h1).frame ⟨rfl, rfl⟩ (fun m hm => hagree m (hi m (putSays'_mem (findI_mem h1) hm))) (fun _ _ => rfl)
    · have hnF := find_names h2
      have hl := hFpin n hnF
      refine (hs.hold n it (hIF n it h2)).frame hl (fun m hm => ?_) (fun p hp => (hFheap n p hnF hp).1)
      have hmF := hcl m (putSays'_mem (findI_mem h2) hm)
      exact ⟨(hFpin m hmF).1, (hFpin m hmF).2, .inl (hSin m hmF)⟩
  · intro n it p hh ho hp
    rcases hI' n it hh with h1 | ⟨h1, h2⟩
    · rcases hs'.own n it p h1 ho hp with g | ⟨m, jt, q, g1, g2, g3, g4⟩
      · exact .inl (Nat.le_trans hs.mono g)
      · rw [← g4]; exact hs.own m jt q (hI1 m jt g1) g2 g3
    · rw [(hFpin n (find_names h2)).1] at hp
      exact hs.own n it p (hIF n it h2) ho hp
  · intro n m it it' p q hh hh' ho hnm hp hq
    rcases hI' n it hh with h1 | ⟨h1, h2⟩
    · rcases hI' m it' hh' with k1 | ⟨k1, k2⟩
      · exact hs'.sep n m it it' p q h1 k1 ho hnm hp hq
      · have hmF := find_names k2
        rw [(hFpin m hmF).1] at hq
        have hlt := (hFheap m q hmF hq).2
        rcases hs'.own n it p h1 ho hp with g | ⟨n', jt, q', g1, g2, g3, g4⟩
        · omega
        · rw [← g4]; exact hne n' m q' q jt (find_names g1) g1 g2 g3 hmF hq
    · have hnF := find_names h2
      rw [(hFpin n hnF).1] at hp
      rcases hI' m it' hh' with k1 | ⟨k1, k2⟩
      · have hlt := (hFheap n p hnF hp).2
        cases ho' : it'.owned with
        | true =>
          rcases hs'.own m it' q k1 ho' hq with g | ⟨n', jt, q', g1, g2, g3, g4⟩
          · omega
          · rw [← g4]; exact (hne n' n q' p jt (find_names g1) g1 g2 g3 hnF hp).symm
        | false =>
          obtain ⟨hm1, hpm⟩ := sideI_mem hv (findI_mem k1) ho'
          cases hf : findI m s1.items with
          | none => exact absurd hm1 (none_of hf)
          | some jt =>
            have hq' : ρ.loc m = some q := by
              have e : ρ'.loc m = ρ.loc m := (hs'.pin m hpm).1
              rw [← e]; exact hq
            exact hs.sep n m it jt p q (hIF n it h2) (hI1 m jt hf) ho hnm hp hq'
      · rw [(hFpin m (find_names k2)).1] at hq
        exact hs.sep n m it it' p q (hIF n it h2) (hIF m it' k2) ho hnm hp hq
  · intro n it p hh hp
    rcases hI' n it hh with h1 | ⟨h1, h2⟩
    · exact hs'.lt n it p h1 hp
    · rw [(hFpin n (find_names h2)).1] at hp
      exact Nat.lt_of_lt_of_le (hFheap n p (find_names h2) hp).2 hs'.mono
  · intro b hb hnb
    rw [hs'.frame b (Nat.lt_of_lt_of_le hb hs.mono) ?_]
    · exact hs.frame b hb hnb
    · rintro ⟨m, it, p, h1, h2, h3, h4⟩
      rcases hs.own m it p (hI1 m it h1) h2 h3 with g | g
      · omega
      · exact hnb (h4 ▸ g)
  · intro n hn
    have hn' : n < s'.lo ∨ hiN ≤ n := hn
    obtain ⟨g1, g2, g3⟩ := hs'.pin n hn'
    obtain ⟨k1, k2, k3⟩ := hs.pin n (by rw [← hlo]; exact hn')
    refine ⟨g1.trans k1, g2.trans k2, ?_⟩
    by_cases hF : n ∈ putNames Fr
    · rw [hSin n hF]; exact k3
    · rw [hSout n hF]
      rcases g3 with g3 | g3
      · rw [g3]
        rcases hS1 n with e | e
        · change s1.S n = _ ∨ s1.S n = none; rw [e]; exact k3
        · exact .inr e
      · exact .inr g3
  · exact ⟨hs'.still.1.trans hs.still.1, hs'.still.2.trans hs.still.2⟩

/-! ### loops -/

theorem loop_reach {P : Program} {E : Env} (hΘ : TypesOk P E.Θ) (hΓ : CtxOk P E.Γ) (hm : P.follows .mixedOrders = true) {ν : Nrm} {σ : Shp} {id : Nat} {body : Code} {F : (R : Type) → List Leaf → (X → AS → Option R) → Option R}
    (hlp : LoopsOk P E.lp body) (h : ∀ R ls k r, F R ls k = some r → ∃ fuel, roundsOf E ν id body k fuel (fill σ ls) = some r) {R : Type} {ls : List Leaf} {k : X → AS → Option R} {r : R} (hk : F R ls k = some r) :
    ∃ e s', k e s' = some r ∧ Reaches P (.block id (.loop body)) (fill σ ls) e s' := by
  obtain ⟨fuel, hf⟩ := h R ls k r hk
  have hb : ∀ (s : AS) (k : X → AS → Option R) (r : R), exec E body s k = some r → ∃ e s', k e s' = some r ∧ Reaches P body s e s' := (exec_sound hΘ hΓ hm body hlp).1
  obtain ⟨e, s'', h1, h2⟩ := iter_rounds hb _ _ _ hf
  obtain ⟨he, n, hw⟩ := rounds_wp h2
  have hl : ∀ w0 Mu ρ a w (Q : Exit → Act → World → Prop), Sim w0 Mu ρ (fill σ ls) a w → (∀ a' w' ρ', Sim w0 Mu ρ' s'' a' w' → Exit.inBlock id Q e.out a' w') → (Code.block id (.loop body)).wp P Q a w := by
    intro w0 Mu ρ a w Q hs hQ
    exact wp_block (wp_loop_rounds n (hw w0 Mu ρ a w _ hs hQ))
  cases e with
  | normal => exact absurd rfl he
  | ret => exact ⟨.ret, s'', h1, fun w0 Mu ρ a w Q hs hQ => hl w0 Mu ρ a w Q hs hQ⟩
  | exit i =>
    simp only at h1
    split at h1
    · rename_i e
      have e := beqT e; subst e
      refine ⟨.normal, s'', h1, fun w0 Mu ρ a w Q hs hQ => hl w0 Mu ρ a w Q hs fun a' w' ρ' hs' => ?_⟩
      simp only [X.out, Exit.inBlock, if_true]; exact hQ a' w' ρ' hs'
    · rename_i e
      have e := beqN e
      refine ⟨.exit i, s'', h1, fun w0 Mu ρ a w Q hs hQ => hl w0 Mu ρ a w Q hs fun a' w' ρ' hs' => ?_⟩
      simp only [X.out, Exit.inBlock, if_neg e]; exact hQ a' w' ρ' hs'

def extraN (K : List Nat) (lo : Nat) : List (Nat × Item) → List Nat
  | [] => []
  | (n, _) :: l => match (Nat.blt n lo || Nat.ble hiN n) && !(memN n K) with | true => n :: extraN K lo l | false => extraN K lo l

def backOk (Fr is : List (Nat × Item)) (lo : Nat) (s' : AS) : Bool :=
  Nat.beq s'.lo lo && (nodupN (putNames s'.items ++ putNames Fr) && (sideT Fr s'.tmps && (disj (putSays' s'.items) (putNames Fr) && sideI s'.lo is s'.items)))

/-- a loop, from what it makes of the leaves at its head; what else hangs on what was handed in stays -/
def mkLF (ν : Nrm) (σ : Shp) (F : (R : Type) → List Leaf → (X → AS → Option R) → Option R) : LoopFn := fun R s k =>
  match nrm { slots := ν.slots, items := ν.items ++ extraN (ν.items ++ rowNames ν.slots) s.lo s.items } s with
  | some s2 => match proj σ { n := s2.n, lo := s2.lo, tmps := s2.tmps, items := partO (extraN (ν.items ++ rowNames ν.slots) s.lo s.items) s2.items } with
    | some ls => match pinsN s2.lo (putNames (partI (extraN (ν.items ++ rowNames ν.slots) s.lo s.items) s2.items)) && allIn (putSays' (partI (extraN (ν.items ++ rowNames ν.slots) s.lo s.items) s2.items)) (putNames (partI (extraN (ν.items ++ rowNames ν.slots) s.lo s.items) s2.items)) with
      | true => F R ls fun e s' => match backOk (partI (extraN (ν.items ++ rowNames ν.slots) s.lo s.items) s2.items) (partO (extraN (ν.items ++ rowNames ν.slots) s.lo s.items) s2.items) s2.lo s' with
        | true => k e { n := s'.n, lo := s'.lo, tmps := s'.tmps, items := s'.items ++ partI (extraN (ν.items ++ rowNames ν.slots) s.lo s.items) s2.items }
        | false => none
      | false => none
    | none => none
  | none => none

theorem loopOkF_of {P : Program} {E : Env} (hΘ : TypesOk P E.Θ) (hΓ : CtxOk P E.Γ) (hm : P.follows .mixedOrders = true) {ν : Nrm} {σ : Shp} {id : Nat} {body : Code} {F : (R : Type) → List Leaf → (X → AS → Option R) → Option R}
    (hlp : LoopsOk P E.lp body) (h : ∀ R ls k r, F R ls k = some r → ∃ fuel, roundsOf E ν id body k fuel (fill σ ls) = some r) : LoopOk P (mkLF ν σ F) id body := by
  intro R s k r hk
  unfold mkLF at hk
  generalize hX : extraN (ν.items ++ rowNames ν.slots) s.lo s.items = X at hk
  split at hk
  · rename_i s2 hn
    split at hk
    · rename_i ls hp
      split at hk
      · rename_i hb
        rw [Bool.and_eq_true] at hb
        obtain ⟨e, s', h1, h2⟩ := loop_reach hΘ hΓ hm hlp h hk
        rw [proj_fill hp] at h2
        split at h1
        · rename_i hbk
          simp only [backOk, Bool.and_eq_true] at hbk
          obtain ⟨b1, b2, b3, b4, b5⟩ := hbk
          refine ⟨e, _, h1, reaches_iff.2 fun w0 Mu ρ a w Q hs hQ => ?_⟩
          obtain ⟨ρ2, hs2⟩ := hs.nrm hn
          have hnd := hs2.nd
          have hnd2 : Nodup' (partO X s2.items ++ partI X s2.items) := nodup_append (nodup_partO hnd) (nodup_partI hnd) fun n h1 h2 => (names_partO h1).2 (names_partI h2).2
          have heq : Eqv s2 { n := s2.n, lo := s2.lo, tmps := s2.tmps, items := partO X s2.items ++ partI X s2.items } := by
            refine ⟨rfl, rfl, rfl, ?_⟩
            funext n
            show findI n s2.items = findI n (partO X s2.items ++ partI X s2.items)
            rw [findI_append, find_partO, find_partI]
            by_cases h : n ∈ X
            · simp [h]
            · simp only [h, if_false]
              cases findI n s2.items <;> rfl
          have hs3 := hs2.eqv heq hnd2
          refine reaches_iff.1 (reaches_frame h2 (beqT b1) hnd2 (nodup'_of ?_) hb.1 hb.2 b3 b4 b5) w0 Mu ρ2 a w Q hs3 hQ
          rw [putNames_append]; exact nodupN_iff.1 b2
        · cases h1
      · cases hk
    · cases hk
  · cases hk

/-! ### a function that is handed all -/

def svAVs : List SV → List AV
  | [] => []
  | v :: l => .s v :: svAVs l

def retN {R : Type} (Θ : Types) (np : Nat) (rv : List ResultVar) (k : List DV → Option R) (e : X) (s : AS) : Option R :=
  match e with
  | .exit _ => none
  | _ => match Nat.beq s.lo np with
   | false => none
   | true => match resSV Θ s rv with
    | some vs => k [.fr (svAVs vs) s.items]
    | none => none

def callN {R : Type} (E : Env) (np n : Nat) (body : Code) (rv : List ResultVar) (ds : List DV) (k : List DV → Option R) : Option R :=
  match ds with
  | [.fr avs its] => match Nat.beq avs.length np && Nat.ble np n with
    | true => exec E body { n := n, lo := np, tmps := numT 0 avs, items := its } (retN E.Θ np rv k)
    | false => none
  | _ => none

theorem svAVs_length : ∀ {l : List SV}, (svAVs l).length = l.length
  | [] => rfl
  | _ :: l => by simp [svAVs, svAVs_length (l := l)]
theorem svAVs_get : ∀ {l : List SV} {t : Nat}, (svAVs l)[t]? = (l[t]?).map AV.s
  | [], t => rfl
  | v :: l, 0 => rfl
  | v :: l, t + 1 => by simp [svAVs, svAVs_get (l := l)]

theorem inl_contract {P : Program} {E : Env} (hΘ : TypesOk P E.Θ) (hΓ : CtxOk P E.Γ) (hm : P.follows .mixedOrders = true) {g n np : Nat} {fn : Func} {body : Code} {rv : List ResultVar} (ok : FnOk P g fn n body rv) (hlp : LoopsOk P E.lp body) :
    Contract P g { sig := { ps := [], rs := [] }, impl := fun _ ds k => callN E np n body rv ds k, kind := .inl np } := by
  intro R ds k r h
  simp only at h
  unfold callN at h
  split at h
  · rename_i avs its
    split at h
    · rename_i hnp
      rw [Bool.and_eq_true] at hnp
      have hlen := beqT hnp.1
      have hle := ble_iff.1 hnp.2
      obtain ⟨e, s', h1, h2⟩ := (exec_sound hΘ hΓ hm body hlp).1 _ _ _ h
      have key : ∃ vs, (∀ i, e ≠ .exit i) ∧ resSV E.Θ s' rv = some vs ∧ k [.fr (svAVs vs) s'.items] = some r ∧ s'.lo = np := by
        unfold retN at h1
        split at h1
        · cases h1
        · rename_i he
          split at h1
          · cases h1
          · rename_i hlo
            split at h1
            · rename_i vs hvs
              exact ⟨vs, fun i h => he i h, hvs, h1, beqT hlo⟩
            · cases h1
      obtain ⟨vs, he, hvs, hk, hlo⟩ := key
      refine ⟨_, hk, ?_⟩
      intro avs' its' e1
      injection e1 with e1 _; injection e1 with e1 e2; subst e1; subst e2
      refine ⟨_, _, rfl, fun w Mu ρ xs hxl hs0 => ⟨⟨fn, ok.look, by rw [ok.body]; rfl, ok.name⟩, ?_⟩⟩
      have hn := ok.n
      subst hn
      refine calls_of_wp ok.look ok.body ?_
      have hs1 : Sim w Mu ρ { n := fn.ntmps, lo := np, tmps := numT 0 avs, items := its } { tmps := xs.toArray ++ Array.replicate (fn.ntmps - xs.toArray.size) undef, defers := [] } w := by
        refine ⟨rfl, hs0.nd, by simp; omega, ?_, hs0.hold, hs0.own, hs0.sep, hs0.lt, hs0.mono, hs0.frame, hs0.pin, hs0.still⟩
        intro t
        have hr := hs0.rel t
        by_cases ht : t < xs.length
        · have e : (xs.toArray ++ Array.replicate (fn.ntmps - xs.toArray.size) undef).getD t undef = xs.toArray.getD t undef := by
            rw [Array.getD_eq_getD_getElem?, Array.getElem?_append_left (by simpa using ht), Array.getD_eq_getD_getElem?]
          show RelV ρ _ _ ((xs.toArray ++ Array.replicate (fn.ntmps - xs.toArray.size) undef).getD t undef)
          rw [e]; exact hr
        · have e : AS.T { n := fn.ntmps, lo := np, tmps := numT 0 avs, items := its } t = .s (.one .dead) := by
            show findT t (numT 0 avs) = _
            rw [numT_find avs 0 t (Nat.zero_le _), Nat.sub_zero, List.getElem?_eq_none (by omega)]; rfl
          rw [e]; exact relDead _ _ _
      refine reaches_iff.1 h2 w Mu ρ _ _ _ hs1 ?_
      intro a' w' ρ' hs
      obtain ⟨Xs, x1, x2, x3, x4⟩ := resSV_spec hΘ hs hvs
      have hpost : a'.defers = [] ∧ ∃ v, (results fn a'.tmps).run P w' = .ok v w' ∧ ∃ Xs ρ', Ending.returned v = .returned (resVal Xs) ∧ Xs.length = (svAVs vs).length ∧
          Sim w Mu ρ' { n := (svAVs vs).length, lo := np, tmps := numT 0 (svAVs vs), items := s'.items } { tmps := Xs.toArray, defers := [] } w' := by
        refine ⟨hs.defers, resVal Xs, results_eq fn _ _ (by rw [ok.rv]; exact x4), Xs, ρ', rfl, by rw [svAVs_length]; omega, ?_⟩
        refine ⟨rfl, hs.nd, by rw [svAVs_length]; simp; omega, ?_, hs.hold, hs.own, hs.sep, hs.lt, hs.mono, hs.frame, by rw [← hlo]; exact hs.pin, hs.still⟩
        intro t
        show RelV ρ' _ (findT t (numT 0 (svAVs vs))) _
        rw [numT_find _ 0 t (Nat.zero_le _), Nat.sub_zero, svAVs_get]
        by_cases ht : t < vs.length
        · have hv := List.getElem?_eq_getElem ht
          have hX := List.getElem?_eq_getElem (l := Xs) (i := t) (by omega)
          have e : (Xs.toArray).getD t undef = Xs[t]'(by omega) := by
            rw [Array.getD_eq_getD_getElem?]; simp [hX]
          rw [hv]
          show RelV ρ' _ (.s vs[t]) ((Xs.toArray).getD t undef)
          rw [e]
          exact x3 t _ _ hv hX
        · rw [List.getElem?_eq_none (by omega)]; exact relDead _ _ _
      cases e with
      | normal => exact hpost
      | ret => exact hpost
      | exit i => exact absurd rfl (he i)
    · cases h
  · cases h

end Go.Eng

/- The document's small functions. -/
namespace Go.Proofs.Ytiaddnmloonhgaa
open Go Go.Eng
set_option maxRecDepth 100000
def I93 : (R : Type) → List DV → (List DV → Option R) → Option R := fun _ ds k => match ds with
  | [.v (.one (.int .u32 x)), .v (.one (.int .u64 n))] => bif decide (0 ≤ n) && decide (n ≤ 32) then k [.v (.one (.int .u32 (rotl x n)))] else none
  | _ => none
theorem c93 : Contract Try.prog 93 { sig := S93, impl := I93 } := by
  refine Contract.refine fun R ds k r h => ⟨_, f93_contract 0 ctxOk_nil, ?_⟩
  unfold I93 at h
  split at h
  · rename_i x n
    rw [f93_raw_eq]
    cases hb : decide (0 ≤ n) && decide (n ≤ 32) with
    | true =>
      rw [hb] at h
      simp only [Bool.and_eq_true, decide_eq_true_eq] at hb
      obtain ⟨m, rfl⟩ : ∃ m : Nat, n = m := ⟨n.toNat, by omega⟩
      have e : IntKind.u64.wrap (32 - (m : Int)) = 32 - (m : Int) := by
        rw [show (32 : Int) - (m : Int) = ((32 - m : Nat) : Int) by omega]; exact wrapU64 (by omega)
      unfold f93_raw
      dsimp only
      rw [e, decide_eq_true hb.1, decide_eq_true (show (0 : Int) ≤ 32 - (m : Int) by omega)]
      exact h
    | false => rw [hb] at h; cases h
  · cases h
def Q93 : Ctx := [(93, { sig := S93, impl := I93 })]
theorem Q93_ok : CtxOk Try.prog Q93 := ctxOk_cons ok93 rfl c93 ctxOk_nil
end Go.Proofs.Ytiaddnmloonhgaa

/- What rime/rimeref12.quarter comes to. MADE BY PROGRAM (wip/tools/mkfn.py, EngGen.lean). -/
namespace Go.Proofs.Ytiaddnmloonhgaa
open Go Go.Eng
set_option maxRecDepth 100000
set_option linter.unusedVariables false

noncomputable def f46_raw {R : Type} (N : Nat) (s : List Int) (a : Int) (b : Int) (c : Int) (d : Int) (k : List DV → Option R) : Option R :=
 bif Decidable.decide (0 ≤ a) && Decidable.decide (a < nI (rowLen 1 s)) then
 bif Decidable.decide (0 ≤ b) && Decidable.decide (b < nI (rowLen 1 s)) then
 bif Decidable.decide (0 ≤ a) && Decidable.decide (a < nI (rowLen 1 s)) then
 let v0 : Int := IntKind.u32.wrap (s.getD (mulE a.toNat 1) 0 + s.getD (mulE b.toNat 1) 0);
 let v1 : List Int := s.set (mulE a.toNat 1) v0;
 bif Decidable.decide (0 ≤ d) && Decidable.decide (d < nI (rowLen 1 v1)) then
 bif Decidable.decide (0 ≤ a) && Decidable.decide (a < nI (rowLen 1 v1)) then
 bif Decidable.decide (0 ≤ d) && Decidable.decide (d < nI (rowLen 1 v1)) then
 let v2 : Int := xorI IntKind.u32 (v1.getD (mulE d.toNat 1) 0) (v1.getD (mulE a.toNat 1) 0);
 let v3 : List Int := v1.set (mulE d.toNat 1) (rotl v2 16);
 bif Decidable.decide (0 ≤ c) && Decidable.decide (c < nI (rowLen 1 v3)) then
 bif Decidable.decide (0 ≤ d) && Decidable.decide (d < nI (rowLen 1 v3)) then
 bif Decidable.decide (0 ≤ c) && Decidable.decide (c < nI (rowLen 1 v3)) then
 let v4 : Int := IntKind.u32.wrap (v3.getD (mulE c.toNat 1) 0 + v3.getD (mulE d.toNat 1) 0);
 let v5 : List Int := v3.set (mulE c.toNat 1) v4;
 bif Decidable.decide (0 ≤ b) && Decidable.decide (b < nI (rowLen 1 v5)) then
 bif Decidable.decide (0 ≤ c) && Decidable.decide (c < nI (rowLen 1 v5)) then
 bif Decidable.decide (0 ≤ b) && Decidable.decide (b < nI (rowLen 1 v5)) then
 let v6 : Int := xorI IntKind.u32 (v5.getD (mulE b.toNat 1) 0) (v5.getD (mulE c.toNat 1) 0);
 let v7 : List Int := v5.set (mulE b.toNat 1) (rotl v6 12);
 bif Decidable.decide (0 ≤ a) && Decidable.decide (a < nI (rowLen 1 v7)) then
 bif Decidable.decide (0 ≤ b) && Decidable.decide (b < nI (rowLen 1 v7)) then
 bif Decidable.decide (0 ≤ a) && Decidable.decide (a < nI (rowLen 1 v7)) then
 let v8 : Int := IntKind.u32.wrap (v7.getD (mulE a.toNat 1) 0 + v7.getD (mulE b.toNat 1) 0);
 let v9 : List Int := v7.set (mulE a.toNat 1) v8;
 bif Decidable.decide (0 ≤ d) && Decidable.decide (d < nI (rowLen 1 v9)) then
 bif Decidable.decide (0 ≤ a) && Decidable.decide (a < nI (rowLen 1 v9)) then
 bif Decidable.decide (0 ≤ d) && Decidable.decide (d < nI (rowLen 1 v9)) then
 let v10 : Int := xorI IntKind.u32 (v9.getD (mulE d.toNat 1) 0) (v9.getD (mulE a.toNat 1) 0);
 let v11 : List Int := v9.set (mulE d.toNat 1) (rotl v10 8);
 bif Decidable.decide (0 ≤ c) && Decidable.decide (c < nI (rowLen 1 v11)) then
 bif Decidable.decide (0 ≤ d) && Decidable.decide (d < nI (rowLen 1 v11)) then
 bif Decidable.decide (0 ≤ c) && Decidable.decide (c < nI (rowLen 1 v11)) then
 let v12 : Int := IntKind.u32.wrap (v11.getD (mulE c.toNat 1) 0 + v11.getD (mulE d.toNat 1) 0);
 let v13 : List Int := v11.set (mulE c.toNat 1) v12;
 bif Decidable.decide (0 ≤ b) && Decidable.decide (b < nI (rowLen 1 v13)) then
 bif Decidable.decide (0 ≤ c) && Decidable.decide (c < nI (rowLen 1 v13)) then
 bif Decidable.decide (0 ≤ b) && Decidable.decide (b < nI (rowLen 1 v13)) then
 let v14 : Int := xorI IntKind.u32 (v13.getD (mulE b.toNat 1) 0) (v13.getD (mulE c.toNat 1) 0);
 let v15 : List Int := v13.set (mulE b.toNat 1) (rotl v14 7);
 k [DV.fr [] [(0, Item.row IntKind.u32 1 v15)]]
 else Option.none
 else Option.none
 else Option.none
 else Option.none
 else Option.none
 else Option.none
 else Option.none
 else Option.none
 else Option.none
 else Option.none
 else Option.none
 else Option.none
 else Option.none
 else Option.none
 else Option.none
 else Option.none
 else Option.none
 else Option.none
 else Option.none
 else Option.none
 else Option.none
 else Option.none
 else Option.none
else Option.none


noncomputable def E46 (N : Nat) : Env := { Θ := Th, Γ := Q93, K := K46, ν := N46, fuel := 60, lp := [] }


theorem f46_contract (N : Nat) (hΓ : CtxOk Try.prog Q93) : Contract Try.prog 46 { sig := { ps := [], rs := [] }, impl := fun _ ds k => callN (E46 N) 5 110 B46 R46 ds k, kind := .inl 5 } :=
  inl_contract (E := E46 N) thOk hΓ mixed ok46 (loopsOk_of (l := []) (by kernel_rfl) trivial)
theorem f46_raw_eq {R : Type} (N : Nat) (s : List Int) (a : Int) (b : Int) (c : Int) (d : Int) (k : List DV → Option R) : callN (E46 N) 5 110 B46 R46 [.fr [va (.own 0), vi .i64 a, vi .i64 b, vi .i64 c, vi .i64 d] [(0, .row .u32 1 s)]] k = f46_raw N s a b c d k := by kernel_rfl
end Go.Proofs.Ytiaddnmloonhgaa

/- The document's quarter round, and numbers of four bytes. -/
namespace Go.Eng
open Go
theorem Contract.refineK {P : Program} {g : Nat} {fi : FI}
    (h : ∀ R ds (k : List DV → Option R) r, fi.impl R ds k = some r → ∃ impl' : (R : Type) → List DV → (List DV → Option R) → Option R, Contract P g { sig := fi.sig, impl := impl', kind := fi.kind } ∧ impl' R ds k = some r) : Contract P g fi := by
  intro R ds k r hk
  obtain ⟨impl', h1, h2⟩ := h R ds k r hk
  exact h1 R ds k r h2
end Go.Eng
namespace Go.Proofs.Ytiaddnmloonhgaa
open Go Go.Eng
set_option maxRecDepth 100000

def I46 : (R : Type) → List DV → (List DV → Option R) → Option R := fun _ ds k => match ds with
  | [.fr [.s (.one (.own 0)), .s (.one (.int .i64 a)), .s (.one (.int .i64 b)), .s (.one (.int .i64 c)), .s (.one (.int .i64 d))] [(0, .row .u32 1 s)]] =>
    cond (Nat.beq s.length 16 && (in16 a && (in16 b && (in16 c && in16 d)))) (k [.fr [] [(0, .row .u32 1 (quarterL s a.toNat b.toNat c.toNat d.toNat))]]) none
  | _ => none
def F46 : FI := { sig := { ps := [], rs := [] }, impl := I46, kind := .inl 5 }

theorem c46 : Contract Try.prog 46 F46 := by
  refine Contract.refineK fun R ds k r h => ⟨_, f46_contract 0 Q93_ok, ?_⟩
  unfold F46 at h
  simp only at h
  unfold I46 at h
  split at h
  · rename_i a b c d s
    refine (f46_raw_eq 0 s a b c d k).trans ?_
    cases hb : (Nat.beq s.length 16 && (in16 a && (in16 b && (in16 c && in16 d)))) with
    | true =>
      rw [hb] at h
      simp only [Bool.and_eq_true] at hb
      obtain ⟨hl, ha, hb, hc, hd⟩ := hb
      have hl := Nat.eq_of_beq_eq_true hl
      have ha : (decide (0 ≤ a) && decide (a < nI 16)) = true := ha
      have hb : (decide (0 ≤ b) && decide (b < nI 16)) = true := hb
      have hc : (decide (0 ≤ c) && decide (c < nI 16)) = true := hc
      have hd : (decide (0 ≤ d) && decide (d < nI 16)) = true := hd
      have e : ∀ l : List Int, rowLen 1 l = l.length := fun _ => rfl
      unfold f46_raw
      dsimp only
      simp only [e, List.length_set, hl, ha, hb, hc, hd, cond_true]
      exact h
    | false => rw [hb] at h; cases h
  · cases h

/-- a number of four bytes -/
def lowU (b : List Int) : Int := orI .u32 (orI .u32 (orI .u32 (IntKind.u32.wrap (b.getD 0 0)) (shlI .u32 (IntKind.u32.wrap (b.getD 1 0)) 8)) (shlI .u32 (IntKind.u32.wrap (b.getD 2 0)) 16)) (shlI .u32 (IntKind.u32.wrap (b.getD 3 0)) 24)
def I45 : (R : Type) → List DV → (List DV → Option R) → Option R := fun _ ds k => match ds with
  | [.lst .u8 1 b] => cond (Nat.ble 4 b.length) (k [.v (.one (.int .u32 (lowU b)))]) none
  | _ => none
theorem c45 : Contract Try.prog 45 { sig := S45, impl := I45 } := by
  refine Contract.refine fun R ds k r h => ⟨_, f45_contract 0 ctxOk_nil, ?_⟩
  unfold I45 at h
  split at h
  · rename_i b
    rw [f45_raw_eq]
    cases hb : Nat.ble 4 b.length with
    | true =>
      rw [hb] at h
      have hb := Nat.le_of_ble_eq_true hb
      have e : nI (rowLen 1 b) = (b.length : Int) := rfl
      unfold f45_raw
      rw [e, decide_eq_true (show (0 : Int) < (b.length : Int) by omega), decide_eq_true (show (1 : Int) < (b.length : Int) by omega), decide_eq_true (show (2 : Int) < (b.length : Int) by omega), decide_eq_true (show (3 : Int) < (b.length : Int) by omega)]
      exact h
    | false => rw [hb] at h; cases h
  · cases h
def Q19 : Ctx := (45, { sig := S45, impl := I45 }) :: (46, F46) :: Q93
theorem Q19_ok : CtxOk Try.prog Q19 := ctxOk_cons ok45 rfl c45 (ctxOk_cons ok46 rfl c46 Q93_ok)
end Go.Proofs.Ytiaddnmloonhgaa

/- What rime/rimeref12.Block comes to. MADE BY PROGRAM (wip/tools/mkfn.py, EngGen.lean). -/
namespace Go.Proofs.Ytiaddnmloonhgaa
open Go Go.Eng
set_option maxRecDepth 100000
set_option linter.unusedVariables false

def f19_0_sh : Shp := { n := 89, lo := 3, slots := [(1, .one (.int IntKind.u32)), (3, .one (.fix (At.ptr 3 0 Off.z 32))), (5, .one (.fix (At.ptr 5 0 Off.z 12))), (6, .one (.fix (At.ptr 6 0 Off.z 64))), (7, .one (.fix (At.own 1000007))), (8, .one (.int IntKind.i64))], items := [(1000007, .row IntKind.u32 1), (3, .obj [.ints IntKind.u8 32]), (5, .obj [.ints IntKind.u8 12]), (6, .obj [.ints IntKind.u8 64])] }
def f19_0_ex1 : Shp := { n := 89, lo := 3, slots := [(16, .one (.bool)), (1, .one (.int IntKind.u32)), (3, .one (.fix (At.ptr 3 0 Off.z 32))), (5, .one (.fix (At.ptr 5 0 Off.z 12))), (6, .one (.fix (At.ptr 6 0 Off.z 64))), (7, .one (.fix (At.own 1000007))), (8, .one (.int IntKind.i64))], items := [(1000007, .row IntKind.u32 1), (3, .obj [.ints IntKind.u8 32]), (5, .obj [.ints IntKind.u8 12]), (6, .obj [.ints IntKind.u8 64])] }
noncomputable def f19_0_st {R : Type} (N : Nat) (self : Int → Int → List Int → List Int → List Int → List Int → Option R) (k1 : Bool → Int → Int → List Int → List Int → List Int → List Int → Option R) (x1 : Int) (x2 : Int) (x3 : List Int) (x4 : List Int) (x5 : List Int) (x6 : List Int) : Option R :=
 bif Decidable.decide (x2 < 8) then
 let v0 : Int := IntKind.i64.wrap (4 * x2);
 bif loOk (Option.some v0) (hiInt Option.none 32) then
 let v1 : List Int := Go.Eng.sub x4 (plusO Off.z 1 (Option.some v0)) (mulE (Go.Eng.subN (hiNat Option.none 32) (Option.some v0)) 1);
 bif Nat.ble 4 v1.length then
 let v2 : List Int := (zerosOf (1 * 1)).set 0 (lowU v1);
 bif ((2 * (rowLen 1 x3 + rowLen 1 v2) + 192) * 4).ble big48 && (rowLen 1 x3 + rowLen 1 v2).ble big48 then
 let v3 : Int := IntKind.i64.wrap (x2 + 1);
 let v4 : List Int := x3 ++ v2;
 self x1 v3 v4 x4 x5 x6
 else Option.none
 else Option.none
 else Option.none
else k1 (Decidable.decide (x2 < 8)) x1 x2 x3 x4 x5 x6
noncomputable def f19_0_lp {R : Type} (N : Nat) (k1 : Bool → Int → Int → List Int → List Int → List Int → List Int → Option R) : Nat → Int → Int → List Int → List Int → List Int → List Int → Option R
 | 0, _, _, _, _, _, _ => none
 | n + 1, x1, x2, x3, x4, x5, x6 => f19_0_st N (f19_0_lp N k1 n) k1 x1 x2 x3 x4 x5 x6
noncomputable def f19_0_F (N : Nat) : (R : Type) → List Leaf → (X → AS → Option R) → Option R := fun _ ls K => match ls with
 | [.i x1, .i x2, .l x3, .l x4, .l x5, .l x6] => f19_0_lp N (fun y1 y2 y3 y4 y5 y6 y7 => K (X.normal) (fill f19_0_ex1 [.b y1, .i y2, .i y3, .l y4, .l y5, .l y6, .l y7])) N x1 x2 x3 x4 x5 x6
 | _ => none
def f19_2_sh : Shp := { n := 89, lo := 3, slots := [(5, .one (.fix (At.ptr 5 0 Off.z 12))), (6, .one (.fix (At.ptr 6 0 Off.z 64))), (7, .one (.fix (At.own 1000007))), (9, .one (.int IntKind.i64))], items := [(1000007, .row IntKind.u32 1), (5, .obj [.ints IntKind.u8 12]), (6, .obj [.ints IntKind.u8 64])] }
def f19_2_ex1 : Shp := { n := 89, lo := 3, slots := [(31, .one (.bool)), (5, .one (.fix (At.ptr 5 0 Off.z 12))), (6, .one (.fix (At.ptr 6 0 Off.z 64))), (7, .one (.fix (At.own 1000007))), (9, .one (.int IntKind.i64))], items := [(1000007, .row IntKind.u32 1), (5, .obj [.ints IntKind.u8 12]), (6, .obj [.ints IntKind.u8 64])] }
noncomputable def f19_2_st {R : Type} (N : Nat) (self : Int → List Int → List Int → List Int → Option R) (k1 : Bool → Int → List Int → List Int → List Int → Option R) (x1 : Int) (x2 : List Int) (x3 : List Int) (x4 : List Int) : Option R :=
 bif Decidable.decide (x1 < 3) then
 let v0 : Int := IntKind.i64.wrap (4 * x1);
 bif loOk (Option.some v0) (hiInt Option.none 12) then
 let v1 : List Int := Go.Eng.sub x3 (plusO Off.z 1 (Option.some v0)) (mulE (Go.Eng.subN (hiNat Option.none 12) (Option.some v0)) 1);
 bif Nat.ble 4 v1.length then
 let v2 : List Int := (zerosOf (1 * 1)).set 0 (lowU v1);
 bif ((2 * (rowLen 1 x2 + rowLen 1 v2) + 192) * 4).ble big48 && (rowLen 1 x2 + rowLen 1 v2).ble big48 then
 let v3 : Int := IntKind.i64.wrap (x1 + 1);
 let v4 : List Int := x2 ++ v2;
 self v3 v4 x3 x4
 else Option.none
 else Option.none
 else Option.none
else k1 (Decidable.decide (x1 < 3)) x1 x2 x3 x4
noncomputable def f19_2_lp {R : Type} (N : Nat) (k1 : Bool → Int → List Int → List Int → List Int → Option R) : Nat → Int → List Int → List Int → List Int → Option R
 | 0, _, _, _, _ => none
 | n + 1, x1, x2, x3, x4 => f19_2_st N (f19_2_lp N k1 n) k1 x1 x2 x3 x4
noncomputable def f19_2_F (N : Nat) : (R : Type) → List Leaf → (X → AS → Option R) → Option R := fun _ ls K => match ls with
 | [.i x1, .l x2, .l x3, .l x4] => f19_2_lp N (fun y1 y2 y3 y4 y5 => K (X.normal) (fill f19_2_ex1 [.b y1, .i y2, .l y3, .l y4, .l y5])) N x1 x2 x3 x4
 | _ => none
def f19_4_sh : Shp := { n := 89, lo := 3, slots := [(6, .one (.fix (At.ptr 6 0 Off.z 64))), (7, .one (.fix (At.own 1000007))), (10, .one (.fix (At.own 41))), (11, .one (.int IntKind.i64))], items := [(1000007, .row IntKind.u32 1), (6, .obj [.ints IntKind.u8 64]), (41, .row IntKind.u32 1)] }
def f19_4_ex1 : Shp := { n := 89, lo := 3, slots := [(46, .one (.bool)), (6, .one (.fix (At.ptr 6 0 Off.z 64))), (7, .one (.fix (At.own 1000007))), (10, .one (.fix (At.own 41))), (11, .one (.int IntKind.i64))], items := [(1000007, .row IntKind.u32 1), (6, .obj [.ints IntKind.u8 64]), (41, .row IntKind.u32 1)] }
noncomputable def f19_4_st {R : Type} (N : Nat) (self : Int → List Int → List Int → List Int → Option R) (k1 : Bool → Int → List Int → List Int → List Int → Option R) (x1 : Int) (x2 : List Int) (x3 : List Int) (x4 : List Int) : Option R :=
 bif Decidable.decide (x1 < 10) then
 bif x4.length.beq 16 && (in16 0 && (in16 4 && (in16 8 && in16 12))) then
 bif (quarterL x4 (Int.toNat 0) (Int.toNat 4) (Int.toNat 8) (Int.toNat 12)).length.beq 16 && (in16 1 && (in16 5 && (in16 9 && in16 13))) then
 bif (quarterL (quarterL x4 (Int.toNat 0) (Int.toNat 4) (Int.toNat 8) (Int.toNat 12)) (Int.toNat 1) (Int.toNat 5) (Int.toNat 9) (Int.toNat 13)).length.beq 16 && (in16 2 && (in16 6 && (in16 10 && in16 14))) then
 bif (quarterL (quarterL (quarterL x4 (Int.toNat 0) (Int.toNat 4) (Int.toNat 8) (Int.toNat 12)) (Int.toNat 1) (Int.toNat 5) (Int.toNat 9) (Int.toNat 13)) (Int.toNat 2) (Int.toNat 6) (Int.toNat 10) (Int.toNat 14)).length.beq 16 && (in16 3 && (in16 7 && (in16 11 && in16 15))) then
 bif (quarterL (quarterL (quarterL (quarterL x4 (Int.toNat 0) (Int.toNat 4) (Int.toNat 8) (Int.toNat 12)) (Int.toNat 1) (Int.toNat 5) (Int.toNat 9) (Int.toNat 13)) (Int.toNat 2) (Int.toNat 6) (Int.toNat 10) (Int.toNat 14)) (Int.toNat 3) (Int.toNat 7) (Int.toNat 11) (Int.toNat 15)).length.beq 16 && (in16 0 && (in16 5 && (in16 10 && in16 15))) then
 bif (quarterL (quarterL (quarterL (quarterL (quarterL x4 (Int.toNat 0) (Int.toNat 4) (Int.toNat 8) (Int.toNat 12)) (Int.toNat 1) (Int.toNat 5) (Int.toNat 9) (Int.toNat 13)) (Int.toNat 2) (Int.toNat 6) (Int.toNat 10) (Int.toNat 14)) (Int.toNat 3) (Int.toNat 7) (Int.toNat 11) (Int.toNat 15)) (Int.toNat 0) (Int.toNat 5) (Int.toNat 10) (Int.toNat 15)).length.beq 16 && (in16 1 && (in16 6 && (in16 11 && in16 12))) then
 bif (quarterL (quarterL (quarterL (quarterL (quarterL (quarterL x4 (Int.toNat 0) (Int.toNat 4) (Int.toNat 8) (Int.toNat 12)) (Int.toNat 1) (Int.toNat 5) (Int.toNat 9) (Int.toNat 13)) (Int.toNat 2) (Int.toNat 6) (Int.toNat 10) (Int.toNat 14)) (Int.toNat 3) (Int.toNat 7) (Int.toNat 11) (Int.toNat 15)) (Int.toNat 0) (Int.toNat 5) (Int.toNat 10) (Int.toNat 15)) (Int.toNat 1) (Int.toNat 6) (Int.toNat 11) (Int.toNat 12)).length.beq 16 && (in16 2 && (in16 7 && (in16 8 && in16 13))) then
 bif (quarterL (quarterL (quarterL (quarterL (quarterL (quarterL (quarterL x4 (Int.toNat 0) (Int.toNat 4) (Int.toNat 8) (Int.toNat 12)) (Int.toNat 1) (Int.toNat 5) (Int.toNat 9) (Int.toNat 13)) (Int.toNat 2) (Int.toNat 6) (Int.toNat 10) (Int.toNat 14)) (Int.toNat 3) (Int.toNat 7) (Int.toNat 11) (Int.toNat 15)) (Int.toNat 0) (Int.toNat 5) (Int.toNat 10) (Int.toNat 15)) (Int.toNat 1) (Int.toNat 6) (Int.toNat 11) (Int.toNat 12)) (Int.toNat 2) (Int.toNat 7) (Int.toNat 8) (Int.toNat 13)).length.beq 16 && (in16 3 && (in16 4 && (in16 9 && in16 14))) then
 let v0 : Int := IntKind.i64.wrap (x1 + 1);
 self v0 x2 x3 (quarterL (quarterL (quarterL (quarterL (quarterL (quarterL (quarterL (quarterL x4 (Int.toNat 0) (Int.toNat 4) (Int.toNat 8) (Int.toNat 12)) (Int.toNat 1) (Int.toNat 5) (Int.toNat 9) (Int.toNat 13)) (Int.toNat 2) (Int.toNat 6) (Int.toNat 10) (Int.toNat 14)) (Int.toNat 3) (Int.toNat 7) (Int.toNat 11) (Int.toNat 15)) (Int.toNat 0) (Int.toNat 5) (Int.toNat 10) (Int.toNat 15)) (Int.toNat 1) (Int.toNat 6) (Int.toNat 11) (Int.toNat 12)) (Int.toNat 2) (Int.toNat 7) (Int.toNat 8) (Int.toNat 13)) (Int.toNat 3) (Int.toNat 4) (Int.toNat 9) (Int.toNat 14))
 else Option.none
 else Option.none
 else Option.none
 else Option.none
 else Option.none
 else Option.none
 else Option.none
 else Option.none
else k1 (Decidable.decide (x1 < 10)) x1 x2 x3 x4
noncomputable def f19_4_lp {R : Type} (N : Nat) (k1 : Bool → Int → List Int → List Int → List Int → Option R) : Nat → Int → List Int → List Int → List Int → Option R
 | 0, _, _, _, _ => none
 | n + 1, x1, x2, x3, x4 => f19_4_st N (f19_4_lp N k1 n) k1 x1 x2 x3 x4
noncomputable def f19_4_F (N : Nat) : (R : Type) → List Leaf → (X → AS → Option R) → Option R := fun _ ls K => match ls with
 | [.i x1, .l x2, .l x3, .l x4] => f19_4_lp N (fun y1 y2 y3 y4 y5 => K (X.normal) (fill f19_4_ex1 [.b y1, .i y2, .l y3, .l y4, .l y5])) N x1 x2 x3 x4
 | _ => none
def f19_6_sh : Shp := { n := 89, lo := 3, slots := [(6, .one (.fix (At.ptr 6 0 Off.z 64))), (7, .one (.fix (At.own 1000007))), (10, .one (.fix (At.own 41))), (12, .one (.fix (At.ptr 12 0 Off.z 64))), (13, .one (.int IntKind.i64))], items := [(1000007, .row IntKind.u32 1), (6, .obj [.ints IntKind.u8 64]), (12, .obj [.ints IntKind.u8 64]), (41, .row IntKind.u32 1)] }
def f19_6_ex1 : Shp := { n := 89, lo := 3, slots := [(66, .one (.bool)), (6, .one (.fix (At.ptr 6 0 Off.z 64))), (7, .one (.fix (At.own 1000007))), (10, .one (.fix (At.own 41))), (12, .one (.fix (At.ptr 12 0 Off.z 64))), (13, .one (.int IntKind.i64))], items := [(1000007, .row IntKind.u32 1), (6, .obj [.ints IntKind.u8 64]), (12, .obj [.ints IntKind.u8 64]), (41, .row IntKind.u32 1)] }
noncomputable def f19_6_st {R : Type} (N : Nat) (self : Int → List Int → List Int → List Int → List Int → Option R) (k1 : Bool → Int → List Int → List Int → List Int → List Int → Option R) (x1 : Int) (x2 : List Int) (x3 : List Int) (x4 : List Int) (x5 : List Int) : Option R :=
 bif Decidable.decide (x1 < 64) then
 let v0 : Int := IntKind.i64.wrap (x1.tdiv 4);
 bif Decidable.decide (0 ≤ v0) && Decidable.decide (v0 < nI (rowLen 1 x5)) then
 bif Decidable.decide (0 ≤ v0) && Decidable.decide (v0 < nI (rowLen 1 x2)) then
 let v1 : Int := IntKind.i64.wrap (8 * x1.tmod 4);
 let v2 : Int := IntKind.u64.wrap v1;
 bif Decidable.decide (0 ≤ v2) then
 bif Decidable.decide (0 ≤ x1) && Decidable.decide (x1 < 64) then
 let v3 : Int := IntKind.i64.wrap (x1 + 1);
 let v4 : Int := IntKind.u32.wrap (x5.getD (mulE v0.toNat 1) 0 + x2.getD (mulE v0.toNat 1) 0);
 let v5 : Int := shrI IntKind.u32 v4 v2;
 let v6 : Int := IntKind.u8.wrap v5;
 let v7 : List Int := x4.set (mulE x1.toNat 1) v6;
 self v3 x2 x3 v7 x5
 else Option.none
 else Option.none
 else Option.none
 else Option.none
else k1 (Decidable.decide (x1 < 64)) x1 x2 x3 x4 x5
noncomputable def f19_6_lp {R : Type} (N : Nat) (k1 : Bool → Int → List Int → List Int → List Int → List Int → Option R) : Nat → Int → List Int → List Int → List Int → List Int → Option R
 | 0, _, _, _, _, _ => none
 | n + 1, x1, x2, x3, x4, x5 => f19_6_st N (f19_6_lp N k1 n) k1 x1 x2 x3 x4 x5
noncomputable def f19_6_F (N : Nat) : (R : Type) → List Leaf → (X → AS → Option R) → Option R := fun _ ls K => match ls with
 | [.i x1, .l x2, .l x3, .l x4, .l x5] => f19_6_lp N (fun y1 y2 y3 y4 y5 y6 => K (X.normal) (fill f19_6_ex1 [.b y1, .i y2, .l y3, .l y4, .l y5, .l y6])) N x1 x2 x3 x4 x5
 | _ => none
noncomputable def f19_raw {R : Type} (N : Nat) (key : List Int) (ctr : Int) (nonce : List Int) (k : List DV → Option R) : Option R :=
 let v0 : List Int := (zerosOf (4 * 1)).set 0 1634760805;
let v1 : List Int := v0.set 1 857760878;
let v2 : List Int := v1.set 2 2036477234;
let v3 : List Int := v2.set 3 1797285236;
f19_0_lp N
 (fun w4_1 w4_2 w4_3 w4_4 w4_5 w4_6 w4_7 =>
 let v5 : List Int := (zerosOf (1 * 1)).set 0 w4_2;
 bif ((2 * (rowLen 1 w4_4 + rowLen 1 v5) + 192) * 4).ble big48 && (rowLen 1 w4_4 + rowLen 1 v5).ble big48 then
 let v6 : List Int := w4_4 ++ v5;
 f19_2_lp N
 (fun w7_1 w7_2 w7_3 w7_4 w7_5 =>
 let v8 : Nat := Min.min (rowLen 1 w7_3) (rowLen 1 (zerosOf (mulE (Int.toNat 16) 1)));
 let v9 : List Int := splice (zerosOf (mulE (Int.toNat 16) 1)) Off.z (List.take (mulE v8 1) w7_3);
 f19_4_lp N (fun w10_1 w10_2 w10_3 w10_4 w10_5 => f19_6_lp N (fun w11_1 w11_2 w11_3 w11_4 w11_5 w11_6 => k [DV.v (SV.one (At.ints IntKind.u8 64 w11_5))]) N 0 w10_3 w10_4 (List.replicate 64 0) w10_5) N 0 w7_3 w7_5 v9)
 N 0 v6 w4_6 w4_7
 else Option.none)
 N ctr 0 v3 key nonce (List.replicate 64 0)


noncomputable def E19 (N : Nat) : Env := { Θ := Th, Γ := Q19, K := K19, ν := N19, fuel := 0, lp := [(0, mkL N19_0 f19_0_sh (f19_0_F N)), (2, mkL N19_2 f19_2_sh (f19_2_F N)), (4, mkL N19_4 f19_4_sh (f19_4_F N)), (6, mkL N19_6 f19_6_sh (f19_6_F N))] }

theorem f19_0_st_eq {R : Type} (N : Nat) (K : X → AS → Option R) (n : Nat) (x1 : Int) (x2 : Int) (x3 : List Int) (x4 : List Int) (x5 : List Int) (x6 : List Int) : roundsOf (E19 N) N19_0 0 B19_0 K (n + 1) (fill f19_0_sh [.i x1, .i x2, .l x3, .l x4, .l x5, .l x6]) = f19_0_st N (fun x1 x2 x3 x4 x5 x6 => roundsOf (E19 N) N19_0 0 B19_0 K n (fill f19_0_sh [.i x1, .i x2, .l x3, .l x4, .l x5, .l x6])) (fun y1 y2 y3 y4 y5 y6 y7 => K (X.normal) (fill f19_0_ex1 [.b y1, .i y2, .i y3, .l y4, .l y5, .l y6, .l y7])) x1 x2 x3 x4 x5 x6 := by kernel_rfl
theorem f19_0_lp_eq {R : Type} (N : Nat) (K : X → AS → Option R) : ∀ (n : Nat) (x1 : Int) (x2 : Int) (x3 : List Int) (x4 : List Int) (x5 : List Int) (x6 : List Int), roundsOf (E19 N) N19_0 0 B19_0 K n (fill f19_0_sh [.i x1, .i x2, .l x3, .l x4, .l x5, .l x6]) = f19_0_lp N (fun y1 y2 y3 y4 y5 y6 y7 => K (X.normal) (fill f19_0_ex1 [.b y1, .i y2, .i y3, .l y4, .l y5, .l y6, .l y7])) n x1 x2 x3 x4 x5 x6
  | 0, _, _, _, _, _, _ => rfl
  | n + 1, x1, x2, x3, x4, x5, x6 => by
    rw [f19_0_st_eq, f19_0_lp, show (fun x1 x2 x3 x4 x5 x6 => roundsOf (E19 N) N19_0 0 B19_0 K n (fill f19_0_sh [.i x1, .i x2, .l x3, .l x4, .l x5, .l x6])) = f19_0_lp N (fun y1 y2 y3 y4 y5 y6 y7 => K (X.normal) (fill f19_0_ex1 [.b y1, .i y2, .i y3, .l y4, .l y5, .l y6, .l y7])) n from by funext x1 x2 x3 x4 x5 x6; exact f19_0_lp_eq N K n x1 x2 x3 x4 x5 x6]
theorem f19_0_ok (N : Nat) (hlp : LoopsOk Try.prog (E19 N).lp B19_0) (hΓ : CtxOk Try.prog (E19 N).Γ) : LoopOk Try.prog (mkL N19_0 f19_0_sh (f19_0_F N)) 0 B19_0 := by
  refine loopOk_of (E := E19 N) thOk hΓ mixed hlp ?_
  intro R ls K r h
  unfold f19_0_F at h
  split at h
  · exact ⟨N, by rw [f19_0_lp_eq]; exact h⟩
  · cases h
theorem f19_2_st_eq {R : Type} (N : Nat) (K : X → AS → Option R) (n : Nat) (x1 : Int) (x2 : List Int) (x3 : List Int) (x4 : List Int) : roundsOf (E19 N) N19_2 2 B19_2 K (n + 1) (fill f19_2_sh [.i x1, .l x2, .l x3, .l x4]) = f19_2_st N (fun x1 x2 x3 x4 => roundsOf (E19 N) N19_2 2 B19_2 K n (fill f19_2_sh [.i x1, .l x2, .l x3, .l x4])) (fun y1 y2 y3 y4 y5 => K (X.normal) (fill f19_2_ex1 [.b y1, .i y2, .l y3, .l y4, .l y5])) x1 x2 x3 x4 := by kernel_rfl
theorem f19_2_lp_eq {R : Type} (N : Nat) (K : X → AS → Option R) : ∀ (n : Nat) (x1 : Int) (x2 : List Int) (x3 : List Int) (x4 : List Int), roundsOf (E19 N) N19_2 2 B19_2 K n (fill f19_2_sh [.i x1, .l x2, .l x3, .l x4]) = f19_2_lp N (fun y1 y2 y3 y4 y5 => K (X.normal) (fill f19_2_ex1 [.b y1, .i y2, .l y3, .l y4, .l y5])) n x1 x2 x3 x4
  | 0, _, _, _, _ => rfl
  | n + 1, x1, x2, x3, x4 => by
    rw [f19_2_st_eq, f19_2_lp, show (fun x1 x2 x3 x4 => roundsOf (E19 N) N19_2 2 B19_2 K n (fill f19_2_sh [.i x1, .l x2, .l x3, .l x4])) = f19_2_lp N (fun y1 y2 y3 y4 y5 => K (X.normal) (fill f19_2_ex1 [.b y1, .i y2, .l y3, .l y4, .l y5])) n from by funext x1 x2 x3 x4; exact f19_2_lp_eq N K n x1 x2 x3 x4]
theorem f19_2_ok (N : Nat) (hlp : LoopsOk Try.prog (E19 N).lp B19_2) (hΓ : CtxOk Try.prog (E19 N).Γ) : LoopOk Try.prog (mkL N19_2 f19_2_sh (f19_2_F N)) 2 B19_2 := by
  refine loopOk_of (E := E19 N) thOk hΓ mixed hlp ?_
  intro R ls K r h
  unfold f19_2_F at h
  split at h
  · exact ⟨N, by rw [f19_2_lp_eq]; exact h⟩
  · cases h
theorem f19_4_st_eq {R : Type} (N : Nat) (K : X → AS → Option R) (n : Nat) (x1 : Int) (x2 : List Int) (x3 : List Int) (x4 : List Int) : roundsOf (E19 N) N19_4 4 B19_4 K (n + 1) (fill f19_4_sh [.i x1, .l x2, .l x3, .l x4]) = f19_4_st N (fun x1 x2 x3 x4 => roundsOf (E19 N) N19_4 4 B19_4 K n (fill f19_4_sh [.i x1, .l x2, .l x3, .l x4])) (fun y1 y2 y3 y4 y5 => K (X.normal) (fill f19_4_ex1 [.b y1, .i y2, .l y3, .l y4, .l y5])) x1 x2 x3 x4 := by kernel_rfl
theorem f19_4_lp_eq {R : Type} (N : Nat) (K : X → AS → Option R) : ∀ (n : Nat) (x1 : Int) (x2 : List Int) (x3 : List Int) (x4 : List Int), roundsOf (E19 N) N19_4 4 B19_4 K n (fill f19_4_sh [.i x1, .l x2, .l x3, .l x4]) = f19_4_lp N (fun y1 y2 y3 y4 y5 => K (X.normal) (fill f19_4_ex1 [.b y1, .i y2, .l y3, .l y4, .l y5])) n x1 x2 x3 x4
  | 0, _, _, _, _ => rfl
  | n + 1, x1, x2, x3, x4 => by
    rw [f19_4_st_eq, f19_4_lp, show (fun x1 x2 x3 x4 => roundsOf (E19 N) N19_4 4 B19_4 K n (fill f19_4_sh [.i x1, .l x2, .l x3, .l x4])) = f19_4_lp N (fun y1 y2 y3 y4 y5 => K (X.normal) (fill f19_4_ex1 [.b y1, .i y2, .l y3, .l y4, .l y5])) n from by funext x1 x2 x3 x4; exact f19_4_lp_eq N K n x1 x2 x3 x4]
theorem f19_4_ok (N : Nat) (hlp : LoopsOk Try.prog (E19 N).lp B19_4) (hΓ : CtxOk Try.prog (E19 N).Γ) : LoopOk Try.prog (mkL N19_4 f19_4_sh (f19_4_F N)) 4 B19_4 := by
  refine loopOk_of (E := E19 N) thOk hΓ mixed hlp ?_
  intro R ls K r h
  unfold f19_4_F at h
  split at h
  · exact ⟨N, by rw [f19_4_lp_eq]; exact h⟩
  · cases h
theorem f19_6_st_eq {R : Type} (N : Nat) (K : X → AS → Option R) (n : Nat) (x1 : Int) (x2 : List Int) (x3 : List Int) (x4 : List Int) (x5 : List Int) : roundsOf (E19 N) N19_6 6 B19_6 K (n + 1) (fill f19_6_sh [.i x1, .l x2, .l x3, .l x4, .l x5]) = f19_6_st N (fun x1 x2 x3 x4 x5 => roundsOf (E19 N) N19_6 6 B19_6 K n (fill f19_6_sh [.i x1, .l x2, .l x3, .l x4, .l x5])) (fun y1 y2 y3 y4 y5 y6 => K (X.normal) (fill f19_6_ex1 [.b y1, .i y2, .l y3, .l y4, .l y5, .l y6])) x1 x2 x3 x4 x5 := by kernel_rfl
theorem f19_6_lp_eq {R : Type} (N : Nat) (K : X → AS → Option R) : ∀ (n : Nat) (x1 : Int) (x2 : List Int) (x3 : List Int) (x4 : List Int) (x5 : List Int), roundsOf (E19 N) N19_6 6 B19_6 K n (fill f19_6_sh [.i x1, .l x2, .l x3, .l x4, .l x5]) = f19_6_lp N (fun y1 y2 y3 y4 y5 y6 => K (X.normal) (fill f19_6_ex1 [.b y1, .i y2, .l y3, .l y4, .l y5, .l y6])) n x1 x2 x3 x4 x5
  | 0, _, _, _, _, _ => rfl
  | n + 1, x1, x2, x3, x4, x5 => by
    rw [f19_6_st_eq, f19_6_lp, show (fun x1 x2 x3 x4 x5 => roundsOf (E19 N) N19_6 6 B19_6 K n (fill f19_6_sh [.i x1, .l x2, .l x3, .l x4, .l x5])) = f19_6_lp N (fun y1 y2 y3 y4 y5 y6 => K (X.normal) (fill f19_6_ex1 [.b y1, .i y2, .l y3, .l y4, .l y5, .l y6])) n from by funext x1 x2 x3 x4 x5; exact f19_6_lp_eq N K n x1 x2 x3 x4 x5]
theorem f19_6_ok (N : Nat) (hlp : LoopsOk Try.prog (E19 N).lp B19_6) (hΓ : CtxOk Try.prog (E19 N).Γ) : LoopOk Try.prog (mkL N19_6 f19_6_sh (f19_6_F N)) 6 B19_6 := by
  refine loopOk_of (E := E19 N) thOk hΓ mixed hlp ?_
  intro R ls K r h
  unfold f19_6_F at h
  split at h
  · exact ⟨N, by rw [f19_6_lp_eq]; exact h⟩
  · cases h

theorem lok19_6 (N : Nat) (hΓ : CtxOk Try.prog Q19) : LoopOk Try.prog (mkL N19_6 f19_6_sh (f19_6_F N)) 6 B19_6 := f19_6_ok N (loopsOk_of (l := []) (by kernel_rfl) trivial) hΓ
theorem lok19_4 (N : Nat) (hΓ : CtxOk Try.prog Q19) : LoopOk Try.prog (mkL N19_4 f19_4_sh (f19_4_F N)) 4 B19_4 := f19_4_ok N (loopsOk_of (l := []) (by kernel_rfl) trivial) hΓ
theorem lok19_2 (N : Nat) (hΓ : CtxOk Try.prog Q19) : LoopOk Try.prog (mkL N19_2 f19_2_sh (f19_2_F N)) 2 B19_2 := f19_2_ok N (loopsOk_of (l := []) (by kernel_rfl) trivial) hΓ
theorem lok19_0 (N : Nat) (hΓ : CtxOk Try.prog Q19) : LoopOk Try.prog (mkL N19_0 f19_0_sh (f19_0_F N)) 0 B19_0 := f19_0_ok N (loopsOk_of (l := []) (by kernel_rfl) trivial) hΓ
theorem f19_contract (N : Nat) (hΓ : CtxOk Try.prog Q19) : Contract Try.prog 19 { sig := S19, impl := fun _ ds k => call (E19 N) S19 89 B19 R19 ds k } :=
  call_contract (E := E19 N) thOk hΓ mixed ok19.look ok19.body ok19.n ok19.rv ok19.name rfl (by decide) (loopsOk_of (l := [(0, B19_0), (2, B19_2), (4, B19_4), (6, B19_6)]) (by kernel_rfl) (allOk_cons (L := mkL N19_0 f19_0_sh (f19_0_F N)) rfl (lok19_0 N hΓ) (allOk_cons (L := mkL N19_2 f19_2_sh (f19_2_F N)) rfl (lok19_2 N hΓ) (allOk_cons (L := mkL N19_4 f19_4_sh (f19_4_F N)) rfl (lok19_4 N hΓ) (allOk_cons (L := mkL N19_6 f19_6_sh (f19_6_F N)) rfl (lok19_6 N hΓ) trivial)))))
theorem f19_raw_eq {R : Type} (N : Nat) (key : List Int) (ctr : Int) (nonce : List Int) (k : List DV → Option R) : call (E19 N) S19 89 B19 R19 [.v (.one (.ints .u8 32 key)), .v (.one (.int .u32 ctr)), .v (.one (.ints .u8 12 nonce))] k = f19_raw N key ctr nonce k := by kernel_rfl
end Go.Proofs.Ytiaddnmloonhgaa

/- Numbers: what the machine's operations do to natural numbers that fit. -/
namespace Go.Eng
open Go

theorem wrapMod {k : IntKind} (hk : k.signed = false) (n : Nat) : k.wrap (n : Int) = ((n % 2 ^ k.bits : Nat) : Int) := by
  unfold IntKind.wrap
  simp only [hk, Bool.false_and, Bool.false_eq_true, if_false]
  rfl

theorem wrapFit {k : IntKind} (hk : k.signed = false) {n : Nat} (h : n < 2 ^ k.bits) : k.wrap (n : Int) = (n : Int) := by
  rw [wrapMod hk, Nat.mod_eq_of_lt h]

theorem w64 {n : Nat} (h : n < 18446744073709551616) : IntKind.u64.wrap (n : Int) = (n : Int) := wrapFit rfl h
theorem w32 {n : Nat} (h : n < 4294967296) : IntKind.u32.wrap (n : Int) = (n : Int) := wrapFit rfl h
theorem w8 {n : Nat} (h : n < 256) : IntKind.u8.wrap (n : Int) = (n : Int) := wrapFit rfl h
theorem wm64 (n : Nat) : IntKind.u64.wrap (n : Int) = ((n % 18446744073709551616 : Nat) : Int) := wrapMod rfl n
theorem wm32 (n : Nat) : IntKind.u32.wrap (n : Int) = ((n % 4294967296 : Nat) : Int) := wrapMod rfl n
theorem wm8 (n : Nat) : IntKind.u8.wrap (n : Int) = ((n % 256 : Nat) : Int) := wrapMod rfl n
theorem wi64 {n : Nat} (h : n < 9223372036854775808) : IntKind.i64.wrap (n : Int) = (n : Int) := by
  simp [IntKind.wrap, IntKind.bits, IntKind.signed]; omega

theorem shrN {k : IntKind} {m : Nat} (hm : m ≤ k.bits) (n : Nat) : shrI k (n : Int) (m : Int) = ((n / 2 ^ m : Nat) : Int) := by
  unfold shrI
  rw [Int.toNat_natCast, Nat.min_eq_left hm]
  rw [Int.fdiv_eq_ediv_of_nonneg _ (by exact Int.le_of_lt (Int.pow_pos (by decide)))]
  simp

theorem shlN {k : IntKind} (hk : k.signed = false) {m : Nat} (hm : m ≤ k.bits) (n : Nat) : shlI k (n : Int) (m : Int) = ((n * 2 ^ m % 2 ^ k.bits : Nat) : Int) := by
  unfold shlI
  rw [Int.toNat_natCast, Nat.min_eq_left hm]
  rw [show (n : Int) * 2 ^ m = ((n * 2 ^ m : Nat) : Int) by simp, wrapMod hk]

theorem bvNat {w n : Nat} (h : n < 2 ^ w) : (BitVec.ofInt w (n : Int)).toNat = n := by
  rw [BitVec.ofInt_natCast, BitVec.toNat_ofNat, Nat.mod_eq_of_lt h]

theorem andN {k : IntKind} (hk : k.signed = false) {a b : Nat} (ha : a < 2 ^ k.bits) (hb : b < 2 ^ k.bits) : andI k (a : Int) (b : Int) = ((a &&& b : Nat) : Int) := by
  unfold andI
  rw [BitVec.toNat_and, bvNat ha, bvNat hb]
  exact wrapFit hk (Nat.lt_of_le_of_lt Nat.and_le_left ha)

theorem orN {k : IntKind} (hk : k.signed = false) {a b : Nat} (ha : a < 2 ^ k.bits) (hb : b < 2 ^ k.bits) : orI k (a : Int) (b : Int) = ((a ||| b : Nat) : Int) := by
  unfold orI
  rw [BitVec.toNat_or, bvNat ha, bvNat hb]
  exact wrapFit hk (Nat.or_lt_two_pow ha hb)

theorem xorN {k : IntKind} (hk : k.signed = false) {a b : Nat} (ha : a < 2 ^ k.bits) (hb : b < 2 ^ k.bits) : xorI k (a : Int) (b : Int) = ((a ^^^ b : Nat) : Int) := by
  unfold xorI
  rw [BitVec.toNat_xor, bvNat ha, bvNat hb]
  exact wrapFit hk (Nat.xor_lt_two_pow ha hb)

/-- a mask of so many ones -/
theorem maskN {k : IntKind} (hk : k.signed = false) {a j : Nat} (ha : a < 2 ^ k.bits) (hj : j ≤ k.bits) : andI k (a : Int) ((2 ^ j - 1 : Nat) : Int) = ((a % 2 ^ j : Nat) : Int) := by
  rw [andN hk ha (Nat.lt_of_lt_of_le (Nat.sub_lt (Nat.two_pow_pos j) (by decide)) (Nat.pow_le_pow_right (by decide) hj)), Nat.and_two_pow_sub_one_eq_mod]

/-- what lies above and what lies below, put together -/
theorem or_addN {a b j : Nat} (hb : b < 2 ^ j) : (a * 2 ^ j) ||| b = a * 2 ^ j + b := by
  rw [Nat.mul_comm, Nat.two_pow_add_eq_or_of_lt hb]

theorem or_addN' {a b j : Nat} (hb : b < 2 ^ j) : b ||| (a * 2 ^ j) = b + a * 2 ^ j := by
  rw [Nat.or_comm, or_addN hb, Nat.add_comm]

def nats (l : List Nat) : List Int := l.map Int.ofNat

theorem nats_getD (l : List Nat) (i : Nat) : (nats l).getD i 0 = ((l.getD i 0 : Nat) : Int) := by
  simp only [nats, List.getD_eq_getElem?_getD, List.getElem?_map]
  cases l[i]? <;> rfl

theorem nats_set (l : List Nat) (i n : Nat) : (nats l).set i (n : Int) = nats (l.set i n) := by
  simp [nats, List.map_set]

theorem nats_length (l : List Nat) : (nats l).length = l.length := by simp [nats]

theorem nats_inj {a b : List Nat} : nats a = nats b ↔ a = b := by
  constructor
  · intro h
    have : ∀ (a b : List Nat), nats a = nats b → a = b := by
      intro a
      induction a with
      | nil => intro b h; cases b with | nil => rfl | cons y b => simp [nats] at h
      | cons x a ih =>
        intro b h
        cases b with
        | nil => simp [nats] at h
        | cons y b =>
          simp only [nats, List.map_cons, List.cons.injEq] at h
          rw [ih b h.2, Int.ofNat_inj.1 h.1]
    exact this a b h
  · rintro rfl; rfl

/-- numbers that are not below 0, as natural numbers -/
theorem nats_of {xs : List Int} (h : ∀ x ∈ xs, 0 ≤ x) : ∃ l : List Nat, xs = nats l := by
  induction xs with
  | nil => exact ⟨[], rfl⟩
  | cons x xs ih =>
    obtain ⟨l, e⟩ := ih fun y hy => h y (.tail _ hy)
    have hx := h x (.head _)
    exact ⟨x.toNat :: l, by rw [e]; simp [nats]; omega⟩

/-- the number of digits, the lowest first -/
def valB (b : Nat) : List Nat → Nat
  | [] => 0
  | x :: l => x + b * valB b l

theorem valB_append (b : Nat) : ∀ (l m : List Nat), valB b (l ++ m) = valB b l + b ^ l.length * valB b m
  | [], m => by simp [valB]
  | x :: l, m => by
    rw [List.cons_append, valB, valB_append b l m, valB, List.length_cons, Nat.pow_succ]
    rw [Nat.mul_add, Nat.add_assoc, ← Nat.mul_assoc b, Nat.mul_comm b (b ^ l.length)]

theorem valB_lt {b : Nat} (hb : 0 < b) : ∀ {l : List Nat}, (∀ x ∈ l, x < b) → valB b l < b ^ l.length
  | [], _ => by simp [valB]
  | x :: l, h => by
    have h1 := h x (.head _)
    have h2 := valB_lt hb (l := l) fun y hy => h y (.tail _ hy)
    rw [valB, List.length_cons, Nat.pow_succ, Nat.mul_comm _ b]
    have h3 : b * (valB b l + 1) ≤ b * b ^ l.length := Nat.mul_le_mul_left b h2
    rw [Nat.mul_add] at h3
    omega

/-- digits that are digits are the number's -/
theorem valB_inj {b : Nat} (hb : 0 < b) : ∀ {l m : List Nat}, l.length = m.length → (∀ x ∈ l, x < b) → (∀ x ∈ m, x < b) → valB b l = valB b m → l = m
  | [], [], _, _, _, _ => rfl
  | [], _ :: _, h, _, _, _ => by simp at h
  | _ :: _, [], h, _, _, _ => by simp at h
  | x :: l, y :: m, h, h1, h2, h3 => by
    have hx := h1 x (.head _)
    have hy := h2 y (.head _)
    simp only [valB] at h3
    have e1 : (x + b * valB b l) % b = x := by rw [Nat.add_mul_mod_self_left, Nat.mod_eq_of_lt hx]
    have e2 : (y + b * valB b m) % b = y := by rw [Nat.add_mul_mod_self_left, Nat.mod_eq_of_lt hy]
    have e : x = y := by rw [← e1, ← e2, h3]
    subst e
    have h4 : valB b l = valB b m := Nat.eq_of_mul_eq_mul_left hb (by omega)
    rw [valB_inj hb (by simpa using h) (fun z hz => h1 z (.tail _ hz)) (fun z hz => h2 z (.tail _ hz)) h4]

/-- the digits of a number -/
def digs (b : Nat) : Nat → Nat → List Nat
  | 0, _ => []
  | m + 1, n => n % b :: digs b m (n / b)

theorem digs_length (b : Nat) : ∀ (m n : Nat), (digs b m n).length = m
  | 0, _ => rfl
  | m + 1, n => by simp [digs, digs_length b m]

theorem digs_val (b : Nat) : ∀ (m n : Nat), valB b (digs b m n) = n % b ^ m
  | 0, n => by simp [digs, valB, Nat.mod_one]
  | m + 1, n => by
    rw [digs, valB, digs_val b m, Nat.pow_succ, Nat.mul_comm _ b, Nat.mod_mul]

theorem digs_lt {b : Nat} (hb : 0 < b) : ∀ {m n : Nat}, ∀ x ∈ digs b m n, x < b
  | 0, _, x, h => by cases h
  | m + 1, n, x, h => by
    rcases List.mem_cons.1 h with e | h
    · subst e; exact Nat.mod_lt _ hb
    · exact digs_lt hb x h

theorem digs_of {b : Nat} (hb : 0 < b) {l : List Nat} (h : ∀ x ∈ l, x < b) : digs b l.length (valB b l) = l :=
  valB_inj hb (digs_length _ _ _) (digs_lt hb) h (by rw [digs_val, Nat.mod_eq_of_lt (valB_lt hb h)])

end Go.Eng

/- Rows of numbers: small laws. -/
namespace Go.Eng
open Go

def limG : Nat := 1099511627776

/-- the mark of a place -/
def markI (i j : Int) : Int := IntKind.u8.wrap (IntKind.i64.wrap (IntKind.i64.wrap (IntKind.i64.wrap (i * 31) + IntKind.i64.wrap (j * 7)) + 5))

theorem by_mulE (n : Nat) : mulE n 1 = n := rfl
theorem by_rowLen (xs : List Int) : rowLen 1 xs = xs.length := rfl
theorem by_drop {xs : List Int} {i : Nat} (h : i < xs.length) : xs.drop i = xs.getD i 0 :: xs.drop (i + 1) := by
  rw [List.drop_eq_getElem_cons h, List.getD_eq_getElem?_getD, List.getElem?_eq_getElem h]; rfl
theorem by_wrap {n : Nat} (h : n < 4611686018427387904) : IntKind.i64.wrap (n : Int) = n := by
  unfold IntKind.wrap
  simp only [IntKind.bits, IntKind.signed]
  have e : (n : Int) % 2 ^ 64 = n := Int.emod_eq_of_lt (by omega) (by omega)
  simp only [e]
  rw [if_neg]
  simp only [Bool.true_and, decide_eq_true_eq]
  intro h2
  have h2 : (2 : Int) ^ 63 ≤ (n : Int) := by first | exact h2 | simpa using h2
  have : (2 : Int) ^ 63 = 9223372036854775808 := by decide
  omega
theorem by_in {i n : Nat} (h : i < n) : (decide ((0 : Int) ≤ (i : Int)) && decide ((i : Int) < (n : Int))) = true := by simp; omega

/-- places up to n are filled by f, the others are as they were -/
def fillG (f : Nat → Int) (n : Nat) (xs : List Int) : List Int := xs.mapIdx fun i x => if i < n then f i else x
theorem fillG_zero (f : Nat → Int) (xs : List Int) : fillG f 0 xs = xs := by
  unfold fillG
  apply List.ext_getElem?
  intro i
  simp
theorem fillG_length (f : Nat → Int) (n : Nat) (xs : List Int) : (fillG f n xs).length = xs.length := by simp [fillG]
theorem fillG_set (f : Nat → Int) {n : Nat} {xs : List Int} : (fillG f n xs).set n (f n) = fillG f (n + 1) xs := by
  unfold fillG
  apply List.ext_getElem?
  intro i
  rw [List.getElem?_set, List.getElem?_mapIdx, List.getElem?_mapIdx, List.length_mapIdx]
  by_cases h : n = i
  · subst h
    rw [if_pos rfl]
    by_cases hl : n < xs.length
    · rw [if_pos hl, List.getElem?_eq_getElem hl]; simp
    · rw [if_neg hl, List.getElem?_eq_none (by omega)]; rfl
  · rw [if_neg h]
    by_cases hl : i < n
    · have : i < n + 1 := by omega
      simp [hl, this]
    · have : ¬ i < n + 1 := by omega
      simp [hl, this]
theorem fillG_getD {f : Nat → Int} {n : Nat} {xs : List Int} : fillG (fun i => xs.getD i 0) n xs = xs := by
  unfold fillG
  apply List.ext_getElem?
  intro i
  rw [List.getElem?_mapIdx]
  cases h : xs[i]? with
  | none => rfl
  | some x => simp [h]

/-- what is handed in, and three marks behind it -/
def marksG (n : Nat) : List Int := (List.range n).map fun (i : Nat) => markI 987 (i : Int)
def givenG (l : List Int) : List Int := l ++ (marksG (l.length + 3)).drop l.length
theorem marksG_length (n : Nat) : (marksG n).length = n := by simp [marksG]
theorem givenG_length (l : List Int) : (givenG l).length = l.length + 3 := by simp [givenG, marksG_length]
theorem givenG_take (l : List Int) : (givenG l).take l.length = l := by simp [givenG]
theorem fillG_marks (xs : List Int) : fillG (fun (i : Nat) => markI 987 (i : Int)) xs.length xs = marksG xs.length := by
  unfold fillG marksG
  apply List.ext_getElem?
  intro i
  rw [List.getElem?_mapIdx, List.getElem?_map]
  by_cases h : i < xs.length
  · rw [List.getElem?_eq_getElem h, List.getElem?_range h]; simp [h]
  · rw [List.getElem?_eq_none (by omega), List.getElem?_eq_none (by simp; omega)]; rfl
theorem fillG_given (l : List Int) : fillG (fun i => l.getD i 0) l.length (marksG (l.length + 3)) = givenG l := by
  unfold fillG givenG
  apply List.ext_getElem?
  intro i
  rw [List.getElem?_mapIdx, List.getElem?_append]
  by_cases h : i < l.length
  · rw [if_pos h, List.getElem?_eq_getElem (l := marksG (l.length + 3)) (by rw [marksG_length]; omega), List.getElem?_eq_getElem h]
    simp [h]
  · rw [if_neg h, List.getElem?_drop, show l.length + (i - l.length) = i by omega]
    cases (marksG (l.length + 3))[i]? with
    | none => rfl
    | some x => simp [h]

def overG (x y : List Int) : List Int := fillG (fun i => x.getD i 0) x.length y
theorem overG_length (x y : List Int) : (overG x y).length = y.length := fillG_length _ _ _
theorem overG_given (l : List Int) : overG l (marksG (l.length + 3)) = givenG l := fillG_given l

/-! what a copy comes to -/

theorem given_wrap {l : List Int} (h : l.length ≤ 1048576) : IntKind.i64.wrap (nI (rowLen 1 l) + 3) = ((l.length + 3 : Nat) : Int) := by
  show IntKind.i64.wrap (((l.length : Nat) : Int) + 3) = _
  rw [show ((l.length : Nat) : Int) + 3 = ((l.length + 3 : Nat) : Int) by omega]
  exact by_wrap (by omega)
theorem given_len {l : List Int} : (zerosOf (mulE (((l.length + 3 : Nat) : Int)).toNat 1)).length = l.length + 3 := by
  rw [Int.toNat_natCast, by_mulE, zerosOf, List.length_replicate]
theorem given_make {l : List Int} (h : l.length ≤ 1048576) : (decide (0 ≤ ((l.length + 3 : Nat) : Int)) && (decide (((l.length + 3 : Nat) : Int) ≤ ((l.length + 3 : Nat) : Int)) && (decide (((l.length + 3 : Nat) : Int) ≤ 281474976710656) && decide (((l.length + 3 : Nat) : Int) * 1 ≤ 281474976710656)))) = true := by
  rw [decide_eq_true (by omega), decide_eq_true (by omega), decide_eq_true (by omega), decide_eq_true (by omega)]; rfl
theorem given_lim {n : Nat} (h : n ≤ 1048579) : n.ble limG = true := Nat.ble_eq_true_of_le (by unfold limG; omega)
theorem given_hi (l : List Int) : hiOk (some (nI (rowLen 1 l))) (rowLen 1 (givenG l)) = true := by
  show (decide ((0 : Int) ≤ (l.length : Int)) && decide ((l.length : Int) ≤ (((givenG l).length : Nat) : Int))) = true
  rw [givenG_length, decide_eq_true (by omega), decide_eq_true (by omega)]; rfl
theorem given_sub (l : List Int) : Go.Eng.sub (givenG l) (plusO Off.z 1 none) (mulE (Go.Eng.subN (hiNat (some (nI (rowLen 1 l))) (rowLen 1 (givenG l))) none) 1) = l := givenG_take l
end Go.Eng

/- The document's block is the program's. -/
namespace Go.Proofs.Ytiaddnmloonhgaa
open Go Go.Eng
set_option maxRecDepth 100000

theorem bits32 : 2 ^ IntKind.u32.bits = 4294967296 := by decide
theorem bits64 : 2 ^ IntKind.u64.bits = 18446744073709551616 := by decide
theorem p24 : (2 : Nat) ^ 24 = 16777216 := by decide +kernel
theorem low_or {a b c d : Nat} (ha : a < 256) (hb : b < 256) (hc : c < 256) (hd : d < 256) : ((a ||| b * 256) ||| c * 65536) ||| d * 16777216 < 4294967296 := by
  have h : ∀ {x y : Nat}, x < 2 ^ 32 → y < 2 ^ 32 → x ||| y < 2 ^ 32 := fun hx hy => Nat.or_lt_two_pow hx hy
  exact h (h (h (by omega) (by omega)) (by omega)) (by omega)
theorem lowU_nat {a b c d : Nat} (ha : a < 256) (hb : b < 256) (hc : c < 256) (hd : d < 256) : lowU [(a : Int), (b : Int), (c : Int), (d : Int)] = ((((a ||| b * 256) ||| c * 65536) ||| d * 16777216 : Nat) : Int) := by
  have o1 : a ||| b * 256 < 2 ^ 32 := Nat.or_lt_two_pow (by omega) (by omega)
  have o2 : (a ||| b * 256) ||| c * 65536 < 2 ^ 32 := Nat.or_lt_two_pow o1 (by omega)
  show orI .u32 (orI .u32 (orI .u32 (IntKind.u32.wrap (a : Int)) (shlI .u32 (IntKind.u32.wrap (b : Int)) ((8 : Nat) : Int))) (shlI .u32 (IntKind.u32.wrap (c : Int)) ((16 : Nat) : Int))) (shlI .u32 (IntKind.u32.wrap (d : Int)) ((24 : Nat) : Int)) = _
  rw [w32 (n := a) (by omega), w32 (n := b) (by omega), w32 (n := c) (by omega), w32 (n := d) (by omega)]
  rw [shlN (k := .u32) rfl (m := 8) (by decide), shlN (k := .u32) rfl (m := 16) (by decide), shlN (k := .u32) rfl (m := 24) (by decide)]
  have e8 : b * 2 ^ 8 % 2 ^ IntKind.u32.bits = b * 256 := by rw [bits32]; omega
  have e16 : c * 2 ^ 16 % 2 ^ IntKind.u32.bits = c * 65536 := by rw [bits32]; omega
  have e24 : d * 2 ^ 24 % 2 ^ IntKind.u32.bits = d * 16777216 := by rw [bits32, p24]; exact Nat.mod_eq_of_lt (Nat.lt_of_lt_of_le (Nat.mul_lt_mul_of_pos_right hd (by decide +kernel)) (by decide +kernel))
  rw [e8, e16, e24]
  rw [orN (k := .u32) rfl (show _ < 2 ^ 32 by omega) (show _ < 2 ^ 32 by omega), orN (k := .u32) rfl (show _ < 2 ^ 32 from o1) (show _ < 2 ^ 32 by omega), orN (k := .u32) rfl (show _ < 2 ^ 32 from o2) (show _ < 2 ^ 32 by omega)]
theorem lowL_nat {a b c d : Nat} (ha : a < 256) (hb : b < 256) (hc : c < 256) (hd : d < 256) : lowL [(a : Int), (b : Int), (c : Int), (d : Int)] = ((((a ||| b * 256) ||| c * 65536) ||| d * 16777216 : Nat) : Int) := by
  have o1 : a ||| b * 256 < 2 ^ 64 := Nat.or_lt_two_pow (by omega) (by omega)
  have o2 : (a ||| b * 256) ||| c * 65536 < 2 ^ 64 := Nat.or_lt_two_pow o1 (by omega)
  show orI .u64 (orI .u64 (orI .u64 (orI .u64 ((0 : Nat) : Int) (shlI .u64 (IntKind.u64.wrap (a : Int)) ((0 : Nat) : Int))) (shlI .u64 (IntKind.u64.wrap (b : Int)) ((8 : Nat) : Int))) (shlI .u64 (IntKind.u64.wrap (c : Int)) ((16 : Nat) : Int))) (shlI .u64 (IntKind.u64.wrap (d : Int)) ((24 : Nat) : Int)) = _
  rw [w64 (n := a) (by omega), w64 (n := b) (by omega), w64 (n := c) (by omega), w64 (n := d) (by omega)]
  rw [shlN (k := .u64) rfl (m := 0) (by decide), shlN (k := .u64) rfl (m := 8) (by decide), shlN (k := .u64) rfl (m := 16) (by decide), shlN (k := .u64) rfl (m := 24) (by decide)]
  have e0 : a * 2 ^ 0 % 2 ^ IntKind.u64.bits = a := by show a * 1 % 18446744073709551616 = _; omega
  have e8 : b * 2 ^ 8 % 2 ^ IntKind.u64.bits = b * 256 := by rw [bits64]; omega
  have e16 : c * 2 ^ 16 % 2 ^ IntKind.u64.bits = c * 65536 := by rw [bits64]; omega
  have e24 : d * 2 ^ 24 % 2 ^ IntKind.u64.bits = d * 16777216 := by rw [bits64, p24]; exact Nat.mod_eq_of_lt (Nat.lt_of_lt_of_le (Nat.mul_lt_mul_of_pos_right hd (by decide +kernel)) (by decide +kernel))
  rw [e0, e8, e16, e24]
  rw [orN (k := .u64) rfl (show _ < 2 ^ 64 by omega) (show _ < 2 ^ 64 by omega), Nat.zero_or]
  rw [orN (k := .u64) rfl (show _ < 2 ^ 64 by omega) (show _ < 2 ^ 64 by omega), orN (k := .u64) rfl (show _ < 2 ^ 64 from o1) (show _ < 2 ^ 64 by omega), orN (k := .u64) rfl (show _ < 2 ^ 64 from o2) (show _ < 2 ^ 64 by omega)]
theorem low_eq {a b c d : Int} (ha : 0 ≤ a ∧ a < 256) (hb : 0 ≤ b ∧ b < 256) (hc : 0 ≤ c ∧ c < 256) (hd : 0 ≤ d ∧ d < 256) : IntKind.u32.wrap (lowL [a, b, c, d]) = lowU [a, b, c, d] := by
  obtain ⟨a, rfl⟩ : ∃ n : Nat, a = n := ⟨a.toNat, by omega⟩
  obtain ⟨b, rfl⟩ : ∃ n : Nat, b = n := ⟨b.toNat, by omega⟩
  obtain ⟨c, rfl⟩ : ∃ n : Nat, c = n := ⟨c.toNat, by omega⟩
  obtain ⟨d, rfl⟩ : ∃ n : Nat, d = n := ⟨d.toNat, by omega⟩
  rw [lowL_nat (by omega) (by omega) (by omega) (by omega), lowU_nat (by omega) (by omega) (by omega) (by omega), w32 (low_or (by omega) (by omega) (by omega) (by omega))]
theorem take4 {l : List Int} {i : Nat} (h : i + 4 ≤ l.length) : (l.drop i).take 4 = [l.getD i 0, l.getD (i + 1) 0, l.getD (i + 2) 0, l.getD (i + 3) 0] := by
  rw [by_drop (show i < l.length by omega), by_drop (show i + 1 < l.length by omega), by_drop (show i + 1 + 1 < l.length by omega), by_drop (show i + 1 + 1 + 1 < l.length by omega)]
  simp
theorem lowU_take {l : List Int} {m : Nat} (hm : 4 ≤ m) : lowU (l.take m) = lowU (l.take 4) := by
  have h : ∀ j : Nat, j < 4 → (l.take m).getD j 0 = (l.take 4).getD j 0 := fun j hj => by
    rw [List.getD_eq_getElem?_getD, List.getD_eq_getElem?_getD, List.getElem?_take, List.getElem?_take, if_pos (by omega), if_pos hj]
  unfold lowU
  rw [h 0 (by omega), h 1 (by omega), h 2 (by omega), h 3 (by omega)]
theorem bytes_get {l : List Int} (h : Bytes l) {i : Nat} (hi : i < l.length) : 0 ≤ l.getD i 0 ∧ l.getD i 0 < 256 := by
  rw [List.getD_eq_getElem?_getD, List.getElem?_eq_getElem hi]; exact h _ (List.getElem_mem hi)
theorem low_at {l : List Int} (h : Bytes l) {i : Nat} (hi : i + 4 ≤ l.length) : IntKind.u32.wrap (lowL ((l.drop i).take 4)) = lowU ((l.drop i).take 4) := by
  rw [take4 hi]
  exact low_eq (bytes_get h (by omega)) (bytes_get h (by omega)) (bytes_get h (by omega)) (bytes_get h (by omega))

/-! what the rounds begin with -/
def firstL (key : List Int) (ctr : Int) (nonce : List Int) : List Int :=
  (((([1634760805, 857760878, 2036477234, 1797285236] ++ (List.range 8).map fun i => lowU ((key.drop (4 * i)).take 4)) ++ [ctr]) ++ (List.range 3).map fun i => lowU ((nonce.drop (4 * i)).take 4)))
theorem startL_eq (key : List Int) (ctr : Int) (nonce : List Int) : startL key ctr nonce = ((([1634760805, 857760878, 2036477234, 1797285236] ++ (List.range 8).map fun i => IntKind.u32.wrap (lowL ((key.drop (4 * i)).take 4))) ++ [ctr]) ++ (List.range 3).map fun i => IntKind.u32.wrap (lowL ((nonce.drop (4 * i)).take 4))) := by kernel_rfl
theorem first_eq {key nonce : List Int} {ctr : Int} (hk : Bytes key) (hkl : key.length = 32) (hn : Bytes nonce) (hnl : nonce.length = 12) : firstL key ctr nonce = startL key ctr nonce := by
  rw [startL_eq]
  unfold firstL
  congr 1
  · congr 1
    congr 1
    apply List.map_congr_left
    intro i hi
    have := List.mem_range.1 hi
    exact (low_at hk (by omega)).symm
  · apply List.map_congr_left
    intro i hi
    have := List.mem_range.1 hi
    exact (low_at hn (by omega)).symm
theorem start_len (key : List Int) (ctr : Int) (nonce : List Int) : (startL key ctr nonce).length = 16 := by rw [startL_eq]; simp

/-! the loops -/
theorem one_set (v : Int) : (zerosOf (1 * 1)).set 0 v = [v] := rfl
theorem app_big {n : Nat} (h : n ≤ 64) : (((2 * n + 192) * 4).ble big48 && n.ble big48) = true := by
  rw [show ((2 * n + 192) * 4).ble big48 = true from Nat.ble_eq_true_of_le (by unfold big48; omega), show n.ble big48 = true from Nat.ble_eq_true_of_le (by unfold big48; omega)]; rfl
theorem sub_from (xs : List Int) (a h : Nat) : Go.Eng.sub xs (plusO .z 1 (some (a : Int))) (mulE (subN (hiNat none h) (some (a : Int))) 1) = (xs.drop a).take (h - a) := by
  simp [Go.Eng.sub, plusO, Off.plus, mulE, subN, hiNat]

theorem key_loop19 {R : Type} {N : Nat} (k1 : Bool → Int → Int → List Int → List Int → List Int → List Int → Option R) (x1 : Int) {key : List Int} (hk : key.length = 32) (x5 x6 : List Int) :
    ∀ (m i : Nat) (s : List Int), i + m = 8 → s.length = 4 + i → ∀ fuel, m < fuel → f19_0_lp N k1 fuel x1 (i : Int) s key x5 x6 = k1 false x1 8 (s ++ (List.range' i m).map fun i => lowU ((key.drop (4 * i)).take 4)) key x5 x6 := by
  intro m
  induction m with
  | zero =>
    intro i s h hs fuel hf
    obtain ⟨f, rfl⟩ : ∃ f, fuel = f + 1 := ⟨fuel - 1, by omega⟩
    have : i = 8 := by omega
    subst this
    simp only [List.range', List.map_nil, List.append_nil]
    rfl
  | succ m ih =>
    intro i s h hs fuel hf
    obtain ⟨f, rfl⟩ : ∃ f, fuel = f + 1 := ⟨fuel - 1, by omega⟩
    show f19_0_st N (f19_0_lp N k1 f) k1 _ _ _ _ _ _ = _
    unfold f19_0_st
    have h1 : IntKind.i64.wrap (4 * (i : Int)) = ((4 * i : Nat) : Int) := wrapI (by omega) (by omega)
    have h4 : IntKind.i64.wrap ((i : Int) + 1) = ((i + 1 : Nat) : Int) := wrapI (by omega) (by omega)
    rw [decide_eq_true (show (i : Int) < 8 by omega), cond_true]
    dsimp only
    rw [h1, h4, loOk_nat (by simp [hiInt]; omega), sub_from, one_set, cond_true]
    rw [show Nat.ble 4 ((key.drop (4 * i)).take (32 - 4 * i)).length = true from Nat.ble_eq_true_of_le (by rw [List.length_take, List.length_drop]; omega), cond_true]
    rw [show rowLen 1 s + rowLen 1 [lowU ((key.drop (4 * i)).take (32 - 4 * i))] = s.length + 1 from rfl, app_big (by omega), cond_true, lowU_take (by omega)]
    rw [ih (i + 1) _ (by omega) (by simp; omega) f (by omega)]
    simp [List.range'_succ]

theorem nonce_loop19 {R : Type} {N : Nat} (k1 : Bool → Int → List Int → List Int → List Int → Option R) {nonce : List Int} (hk : nonce.length = 12) (x4 : List Int) :
    ∀ (m i : Nat) (s : List Int), i + m = 3 → s.length = 13 + i → ∀ fuel, m < fuel → f19_2_lp N k1 fuel (i : Int) s nonce x4 = k1 false 3 (s ++ (List.range' i m).map fun i => lowU ((nonce.drop (4 * i)).take 4)) nonce x4 := by
  intro m
  induction m with
  | zero =>
    intro i s h hs fuel hf
    obtain ⟨f, rfl⟩ : ∃ f, fuel = f + 1 := ⟨fuel - 1, by omega⟩
    have : i = 3 := by omega
    subst this
    simp only [List.range', List.map_nil, List.append_nil]
    rfl
  | succ m ih =>
    intro i s h hs fuel hf
    obtain ⟨f, rfl⟩ : ∃ f, fuel = f + 1 := ⟨fuel - 1, by omega⟩
    show f19_2_st N (f19_2_lp N k1 f) k1 _ _ _ _ = _
    unfold f19_2_st
    have h1 : IntKind.i64.wrap (4 * (i : Int)) = ((4 * i : Nat) : Int) := wrapI (by omega) (by omega)
    have h4 : IntKind.i64.wrap ((i : Int) + 1) = ((i + 1 : Nat) : Int) := wrapI (by omega) (by omega)
    rw [decide_eq_true (show (i : Int) < 3 by omega), cond_true]
    dsimp only
    rw [h1, h4, loOk_nat (by simp [hiInt]; omega), sub_from, one_set, cond_true]
    rw [show Nat.ble 4 ((nonce.drop (4 * i)).take (12 - 4 * i)).length = true from Nat.ble_eq_true_of_le (by rw [List.length_take, List.length_drop]; omega), cond_true]
    rw [show rowLen 1 s + rowLen 1 [lowU ((nonce.drop (4 * i)).take (12 - 4 * i))] = s.length + 1 from rfl, app_big (by omega), cond_true, lowU_take (by omega)]
    rw [ih (i + 1) _ (by omega) (by simp; omega) f (by omega)]
    simp [List.range'_succ]

theorem quarterL_len (xs : List Int) (a b c d : Nat) : (quarterL xs a b c d).length = xs.length := by simp [quarterL]
theorem rounds_loop19 {R : Type} {N : Nat} (k1 : Bool → Int → List Int → List Int → List Int → Option R) (x2 x3 : List Int) :
    ∀ (m i : Nat) (s : List Int), i + m = 10 → s.length = 16 → ∀ fuel, m < fuel → f19_4_lp N k1 fuel (i : Int) x2 x3 s = k1 false 10 x2 x3 (roundsGo m s) := by
  intro m
  induction m with
  | zero =>
    intro i n h _ fuel hf
    obtain ⟨f, rfl⟩ : ∃ f, fuel = f + 1 := ⟨fuel - 1, by omega⟩
    have : i = 10 := by omega
    subst this
    rfl
  | succ m ih =>
    intro i n h hl fuel hf
    obtain ⟨f, rfl⟩ : ∃ f, fuel = f + 1 := ⟨fuel - 1, by omega⟩
    show f19_4_st N (f19_4_lp N k1 f) k1 _ _ _ n = _
    unfold f19_4_st
    have h4 : IntKind.i64.wrap ((i : Int) + 1) = ((i + 1 : Nat) : Int) := wrapI (by omega) (by omega)
    rw [decide_eq_true (show (i : Int) < 10 by omega), cond_true]
    simp only [quarterL_len, hl, h4]
    exact ih (i + 1) (diagonals (columns n)) (by omega) (by unfold diagonals columns; simp only [quarterL_len]; exact hl) f (by omega)
theorem rounds_len : ∀ (m : Nat) (s : List Int), (roundsGo m s).length = s.length
  | 0, _ => rfl
  | m + 1, s => by
    show (roundsGo m (diagonals (columns s))).length = _
    rw [rounds_len]; unfold diagonals columns; simp only [quarterL_len]

/-! what comes out -/
def outB (t s : List Int) (i : Nat) : Int := IntKind.u8.wrap (shrI .u32 (IntKind.u32.wrap (t.getD (i / 4) 0 + s.getD (i / 4) 0)) ((8 * (i % 4) : Nat) : Int))
theorem outL_raw (t s : List Int) : outL t s = (List.range 64).map fun i => IntKind.u8.wrap (shrI .u64 (IntKind.u64.wrap (IntKind.u32.wrap (t.getD (i / 4) 0 + s.getD (i / 4) 0))) ((8 * (i % 4) : Nat) : Int)) := by kernel_rfl
end Go.Proofs.Ytiaddnmloonhgaa

