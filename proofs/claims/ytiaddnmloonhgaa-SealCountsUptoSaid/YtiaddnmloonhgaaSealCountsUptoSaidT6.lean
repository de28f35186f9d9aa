/- SealCounts: for any key, number and texts whose data stay within 1,048,576: the boxes of a sealer have numbers that rise by one, each opens by its number, and behind the last number there is none. -/
import Derived.Test.YtiaddnmloonhgaaSealCountsUptoSaidT5
import Derived.WalkKit
import Derived.ProofKit
import Derived.JoinedCond
set_option linter.unusedVariables false
set_option linter.unusedSimpArgs false

/- What rime/rimelaw12.SealOpens comes to. MADE BY PROGRAM (wip/tools/mkfn.py, EngGen.lean). -/
namespace Go.Proofs.Ytiaddnmloonhgaa
open Go Go.Eng
set_option maxRecDepth 100000
set_option linter.unusedVariables false

noncomputable def f10_raw {R : Type} (N : Nat) (key : List Int) (nonce : List Int) (op : List Int) (text : List Int) (other : List Int) (at_ : Int) (by_ : Int) (k : List DV → Option R) : Option R :=
 bif okT key nonce op text then
 let v0 : List Int := Go.Eng.sub nonce (plusO Off.z 1 Option.none) (mulE (Go.Eng.subN (hiNat Option.none 12) Option.none) 1);
 bif (rowLen 1 v0 * 1).ble big48 && (rowLen 1 v0).ble big48 then
 bif ((2 * (rowLen 1 v0 + rowLen 1 (sealL key nonce op text)) + 192) * 1).ble big48 && (rowLen 1 v0 + rowLen 1 (sealL key nonce op text)).ble big48 then
 let v1 : List Int := v0 ++ sealL key nonce op text;
 bif Decidable.decide (nI (rowLen 1 v1) > 0) then
 let v2 : Bool := bif Bool.true then Decidable.decide (at_ ≥ 0) else Bool.false;
 bif v2 then
 let v3 : Bool := bif Bool.true then Decidable.decide (at_ < nI (rowLen 1 v1)) else Bool.false;
 bif v3 then
 bif Decidable.decide (0 ≤ at_) && Decidable.decide (at_ < nI (rowLen 1 v1)) then
 bif Decidable.decide (0 ≤ at_) && Decidable.decide (at_ < nI (rowLen 1 v1)) then
 let v4 : Int := xorI IntKind.u8 (v1.getD (mulE at_.toNat 1) 0) by_;
 let v5 : List Int := v1.set (mulE at_.toNat 1) v4;
 bif loOk (Option.some 12) (hiInt Option.none (rowLen 1 v5)) then
 let v6 : List Int := Go.Eng.sub v5 (plusO Off.z 1 (Option.some 12)) (mulE (Go.Eng.subN (hiNat Option.none (rowLen 1 v5)) (Option.some 12)) 1);
 bif okAB op v6 then
 bif loOk (Option.some 12) (hiInt Option.none (rowLen 1 v5)) then
 bif okT key nonce op v6 then
 bif okUn op v5 then
 bif okU3 key op v5 then
 bif (openT key nonce op v6).length.ble lim then
 bif Decidable.decide (openT key nonce op v6 = openT key nonce op v6) then
 let v7 : Bool := bif Bool.true then openE key nonce op v6 == openE key nonce op v6 else Bool.false;
 bif v7 then
 bif (unT key op v5).length.ble lim then
 let v8 : Bool := bif Bool.true then Decidable.decide (unT key op v5 = unT key op v5) else Bool.false;
 bif v8 then
 let v9 : Bool := bif Bool.true then unN key op v5 == unN key op v5 else Bool.false;
 bif v9 then
 let v10 : Bool := bif Bool.true then unE key op v5 == unE key op v5 else Bool.false;
 bif v10 then
 let v11 : Bool := bif Bool.true then Bool.true else Bool.false;
 k [DV.v (SV.one (At.bool v11))]
 else k [DV.v (SV.one (At.bool Bool.false))]
 else k [DV.v (SV.one (At.bool Bool.false))]
 else k [DV.v (SV.one (At.bool Bool.false))]
 else Option.none
 else k [DV.v (SV.one (At.bool Bool.false))]
 else k [DV.v (SV.one (At.bool Bool.false))]
 else Option.none
 else Option.none
 else Option.none
 else Option.none
 else Option.none
 else Option.none
 else Option.none
 else Option.none
 else Option.none
 else
 bif loOk (Option.some 12) (hiInt Option.none (rowLen 1 v1)) then
 let v12 : List Int := Go.Eng.sub v1 (plusO Off.z 1 (Option.some 12)) (mulE (Go.Eng.subN (hiNat Option.none (rowLen 1 v1)) (Option.some 12)) 1);
 bif okAB op v12 then
 bif loOk (Option.some 12) (hiInt Option.none (rowLen 1 v1)) then
 bif okT key nonce op v12 then
 bif okUn op v1 then
 bif okU3 key op v1 then
 bif (openT key nonce op v12).length.ble lim then
 bif Decidable.decide (openT key nonce op v12 = openT key nonce op v12) then
 let v13 : Bool := bif Bool.true then openE key nonce op v12 == openE key nonce op v12 else Bool.false;
 bif v13 then
 bif (unT key op v1).length.ble lim then
 let v14 : Bool := bif Bool.true then Decidable.decide (unT key op v1 = unT key op v1) else Bool.false;
 bif v14 then
 let v15 : Bool := bif Bool.true then unN key op v1 == unN key op v1 else Bool.false;
 bif v15 then
 let v16 : Bool := bif Bool.true then unE key op v1 == unE key op v1 else Bool.false;
 bif v16 then
 let v17 : Bool := bif Bool.true then Bool.true else Bool.false;
 k [DV.v (SV.one (At.bool v17))]
 else k [DV.v (SV.one (At.bool Bool.false))]
 else k [DV.v (SV.one (At.bool Bool.false))]
 else k [DV.v (SV.one (At.bool Bool.false))]
 else Option.none
 else k [DV.v (SV.one (At.bool Bool.false))]
 else k [DV.v (SV.one (At.bool Bool.false))]
 else Option.none
 else Option.none
 else Option.none
 else Option.none
 else Option.none
 else Option.none
 else Option.none
 else
 bif loOk (Option.some 12) (hiInt Option.none (rowLen 1 v1)) then
 let v18 : List Int := Go.Eng.sub v1 (plusO Off.z 1 (Option.some 12)) (mulE (Go.Eng.subN (hiNat Option.none (rowLen 1 v1)) (Option.some 12)) 1);
 bif okAB op v18 then
 bif loOk (Option.some 12) (hiInt Option.none (rowLen 1 v1)) then
 bif okT key nonce op v18 then
 bif okUn op v1 then
 bif okU3 key op v1 then
 bif (openT key nonce op v18).length.ble lim then
 bif Decidable.decide (openT key nonce op v18 = openT key nonce op v18) then
 let v19 : Bool := bif Bool.true then openE key nonce op v18 == openE key nonce op v18 else Bool.false;
 bif v19 then
 bif (unT key op v1).length.ble lim then
 let v20 : Bool := bif Bool.true then Decidable.decide (unT key op v1 = unT key op v1) else Bool.false;
 bif v20 then
 let v21 : Bool := bif Bool.true then unN key op v1 == unN key op v1 else Bool.false;
 bif v21 then
 let v22 : Bool := bif Bool.true then unE key op v1 == unE key op v1 else Bool.false;
 bif v22 then
 let v23 : Bool := bif Bool.true then Bool.true else Bool.false;
 k [DV.v (SV.one (At.bool v23))]
 else k [DV.v (SV.one (At.bool Bool.false))]
 else k [DV.v (SV.one (At.bool Bool.false))]
 else k [DV.v (SV.one (At.bool Bool.false))]
 else Option.none
 else k [DV.v (SV.one (At.bool Bool.false))]
 else k [DV.v (SV.one (At.bool Bool.false))]
 else Option.none
 else Option.none
 else Option.none
 else Option.none
 else Option.none
 else Option.none
 else Option.none
 else
 bif loOk (Option.some 12) (hiInt Option.none (rowLen 1 v1)) then
 let v24 : List Int := Go.Eng.sub v1 (plusO Off.z 1 (Option.some 12)) (mulE (Go.Eng.subN (hiNat Option.none (rowLen 1 v1)) (Option.some 12)) 1);
 bif okAB op v24 then
 bif loOk (Option.some 12) (hiInt Option.none (rowLen 1 v1)) then
 bif okT key nonce op v24 then
 bif okUn op v1 then
 bif okU3 key op v1 then
 bif (openT key nonce op v24).length.ble lim then
 bif Decidable.decide (openT key nonce op v24 = openT key nonce op v24) then
 let v25 : Bool := bif Bool.true then openE key nonce op v24 == openE key nonce op v24 else Bool.false;
 bif v25 then
 bif (unT key op v1).length.ble lim then
 let v26 : Bool := bif Bool.true then Decidable.decide (unT key op v1 = unT key op v1) else Bool.false;
 bif v26 then
 let v27 : Bool := bif Bool.true then unN key op v1 == unN key op v1 else Bool.false;
 bif v27 then
 let v28 : Bool := bif Bool.true then unE key op v1 == unE key op v1 else Bool.false;
 bif v28 then
 let v29 : Bool := bif Bool.true then Bool.true else Bool.false;
 k [DV.v (SV.one (At.bool v29))]
 else k [DV.v (SV.one (At.bool Bool.false))]
 else k [DV.v (SV.one (At.bool Bool.false))]
 else k [DV.v (SV.one (At.bool Bool.false))]
 else Option.none
 else k [DV.v (SV.one (At.bool Bool.false))]
 else k [DV.v (SV.one (At.bool Bool.false))]
 else Option.none
 else Option.none
 else Option.none
 else Option.none
 else Option.none
 else Option.none
 else Option.none
 else Option.none
 else Option.none
else Option.none


noncomputable def E10 (N : Nat) : Env := { Θ := Th2, Γ := QO0, K := K10, ν := N10, fuel := 0, lp := [] }


theorem f10_loops (N : Nat) (hΓ : CtxOk Try.prog QO0) : LoopsOk Try.prog (E10 N).lp B10 := loopsOk_of (l := []) (by kernel_rfl) trivial
theorem f10_raw_eq {R : Type} (N : Nat) (key : List Int) (nonce : List Int) (op : List Int) (text : List Int) (other : List Int) (at_ : Int) (by_ : Int) (k : List DV → Option R) : exec (E10 N) B10 (caseS 128 key nonce op text other at_ by_) (retK Th2 { ps := [], rs := [.val] } [] R10 k) = f10_raw N key nonce op text other at_ by_ k := by kernel_rfl
end Go.Proofs.Ytiaddnmloonhgaa

/- What rime/rimelaw12.SealUnboxes comes to. MADE BY PROGRAM (wip/tools/mkfn.py, EngGen.lean). -/
namespace Go.Proofs.Ytiaddnmloonhgaa
open Go Go.Eng
set_option maxRecDepth 100000
set_option linter.unusedVariables false

noncomputable def f11_raw {R : Type} (N : Nat) (key : List Int) (a : List Int) (b : List Int) (k : List DV → Option R) : Option R :=
 let v0 : Int := IntKind.i64.wrap (nI (rowLen 1 a) + 3);
bif Decidable.decide (0 ≤ v0) && (Decidable.decide (v0 ≤ v0) && (Decidable.decide (v0 ≤ 281474976710656) && Decidable.decide (v0 * 1 ≤ 281474976710656))) then
 bif Decidable.decide (0 = 0) && (zerosOf (mulE v0.toNat 1)).length.ble limG then
 bif Decidable.decide (0 = 0) && (a.length.ble limG && a.length.ble (marksG (zerosOf (mulE v0.toNat 1)).length).length) then
 bif (overG a (marksG (zerosOf (mulE v0.toNat 1)).length)).length.ble lim then
 bif hiOk (Option.some (nI (rowLen 1 a))) (rowLen 1 (overG a (marksG (zerosOf (mulE v0.toNat 1)).length))) then
 let v1 : Int := IntKind.i64.wrap (nI (rowLen 1 b) + 3);
 bif Decidable.decide (0 ≤ v1) && (Decidable.decide (v1 ≤ v1) && (Decidable.decide (v1 ≤ 281474976710656) && Decidable.decide (v1 * 1 ≤ 281474976710656))) then
 bif Decidable.decide (0 = 0) && (zerosOf (mulE v1.toNat 1)).length.ble limG then
 bif Decidable.decide (0 = 0) && (b.length.ble limG && b.length.ble (marksG (zerosOf (mulE v1.toNat 1)).length).length) then
 bif (overG b (marksG (zerosOf (mulE v1.toNat 1)).length)).length.ble lim then
 bif hiOk (Option.some (nI (rowLen 1 b))) (rowLen 1 (overG b (marksG (zerosOf (mulE v1.toNat 1)).length))) then
 let v2 : List Int := Go.Eng.sub (overG a (marksG (zerosOf (mulE v0.toNat 1)).length)) (plusO Off.z 1 Option.none) (mulE (Go.Eng.subN (hiNat (Option.some (nI (rowLen 1 a))) (rowLen 1 (overG a (marksG (zerosOf (mulE v0.toNat 1)).length)))) Option.none) 1);
 let v3 : List Int := Go.Eng.sub (overG b (marksG (zerosOf (mulE v1.toNat 1)).length)) (plusO Off.z 1 Option.none) (mulE (Go.Eng.subN (hiNat (Option.some (nI (rowLen 1 b))) (rowLen 1 (overG b (marksG (zerosOf (mulE v1.toNat 1)).length)))) Option.none) 1);
 bif okUn v2 v3 then
 bif okU3 key a b then
 bif (unT key v2 v3).length.ble lim then
 bif Decidable.decide (unT key v2 v3 = unT key a b) then
 let v4 : Bool := bif Bool.true then unN key v2 v3 == unN key a b else Bool.false;
 bif v4 then
 let v5 : Bool := bif Bool.true then unE key v2 v3 == unE key a b else Bool.false;
 bif v5 then
 bif (overG a (marksG (zerosOf (mulE v0.toNat 1)).length)).length.ble lim then
 bif !Decidable.decide (overG a (marksG (zerosOf (mulE v0.toNat 1)).length) = overG a (marksG (zerosOf (mulE v0.toNat 1)).length)) then Option.none
 else
 bif (overG b (marksG (zerosOf (mulE v1.toNat 1)).length)).length.ble lim then
 bif !Decidable.decide (overG b (marksG (zerosOf (mulE v1.toNat 1)).length) = overG b (marksG (zerosOf (mulE v1.toNat 1)).length)) then Option.none
 else
 let v6 : Bool := bif Bool.true then Bool.true else Bool.false;
 k [DV.v (SV.one (At.bool v6))]
 else Option.none
 else Option.none
 else Option.none
 else Option.none
 else Option.none
 else Option.none
 else Option.none
 else Option.none
 else Option.none
 else Option.none
 else Option.none
 else Option.none
 else Option.none
 else Option.none
 else Option.none
 else Option.none
 else Option.none
else Option.none


noncomputable def E11 (N : Nat) : Env := { Θ := Th2, Γ := QU, K := K11, ν := N11, fuel := 0, lp := [] }


theorem f11_loops (N : Nat) (hΓ : CtxOk Try.prog QU) : LoopsOk Try.prog (E11 N).lp B11 := loopsOk_of (l := []) (by kernel_rfl) trivial
theorem f11_raw_eq {R : Type} (N : Nat) (key : List Int) (a : List Int) (b : List Int) (k : List DV → Option R) : exec (E11 N) B11 (start11s 52 key a b) (retK Th2 { ps := [], rs := [.val] } [] R11 k) = f11_raw N key a b k := by kernel_rfl
end Go.Proofs.Ytiaddnmloonhgaa

/- SealUnboxes: what is compared is the same. -/
namespace Go.Proofs.Ytiaddnmloonhgaa
open Go Go.Eng
set_option maxRecDepth 100000
theorem lim_bleU {n : Nat} (h : n ≤ 1048700) : n.ble lim = true := Nat.ble_eq_true_of_le (by unfold lim; omega)
theorem unT_len (key a b : List Int) : (unT key a b).length ≤ b.length := by
  rw [unT_def]
  unfold unboxL
  split
  · exact Nat.zero_le _
  · split
    · split
      · show (openT key (b.take 12) a (b.drop 12)).length ≤ _
        rw [openT_def]
        unfold openL
        split
        · exact Nat.zero_le _
        · split
          · rw [show (streamL key 1 (b.take 12) ((b.drop 12).take ((b.drop 12).length - 16))).length = ((b.drop 12).take ((b.drop 12).length - 16)).length from maskL_len _ _, List.length_take, List.length_drop]; omega
          · exact Nat.zero_le _
      · exact Nat.zero_le _
    · exact Nat.zero_le _
theorem f11_true (N : Nat) {key a b : List Int} (hT : okU3 key a b = true) (hU : okUn a b = true) (la : a.length ≤ 1048576) (lb : b.length ≤ 1048576) : f11_raw N key a b some = some [.v (.one (.bool true))] := by
  have h2 := unT_len key a b
  have s2 : (unT key a b).length.ble lim = true := lim_bleU (by omega)
  unfold f11_raw
  dsimp only
  simp only [given_wrap la, given_make la, given_wrap lb, given_make lb, given_len, marksG_length, overG_given, given_hi, given_sub, givenG_length,
    given_lim (show a.length ≤ 1048579 by omega), given_lim (show a.length + 3 ≤ 1048579 by omega), lim_bleU (show a.length ≤ 1048700 by omega), lim_bleU (show a.length + 3 ≤ 1048700 by omega),
    given_lim (show b.length ≤ 1048579 by omega), given_lim (show b.length + 3 ≤ 1048579 by omega), lim_bleU (show b.length ≤ 1048700 by omega), lim_bleU (show b.length + 3 ≤ 1048700 by omega),
    hT, hU, s2, cond_true, cond_false, Bool.and_self, decide_true, Bool.true_and, beq_self_eq_true, Bool.not_true, show a.length.ble (a.length + 3) = true from Nat.ble_eq_true_of_le (by omega), show b.length.ble (b.length + 3) = true from Nat.ble_eq_true_of_le (by omega)]
theorem okU3_row {key a b : List Int} (hk : okN 32 key = true) (la : a.length ≤ 1048576) (lb : b.length ≤ 1048576) (ha : Bytes a) (hb : Bytes b) : okU3 key a b = true := by
  rw [okU3_def, hk, okY_mk (n := limT) (by unfold limT; omega) ha, okY_mk (n := limT) (by unfold limT; omega) hb]; rfl
theorem okUn_row {a b : List Int} (la : a.length ≤ 1048576) (lb : b.length ≤ 1048576) : okUn a b = true := by
  rw [okUn_def, show Nat.ble a.length limT = true from Nat.ble_eq_true_of_le (by unfold limT; omega), show Nat.ble b.length limT = true from Nat.ble_eq_true_of_le (by unfold limT; omega)]; rfl
end Go.Proofs.Ytiaddnmloonhgaa

/- SealOpens: what is compared is the same. -/
namespace Go.Proofs.Ytiaddnmloonhgaa
open Go Go.Eng
set_option maxRecDepth 100000
theorem seal_bytes (key nonce a b : List Int) : Bytes (sealL key nonce a b) := by
  rw [sealL_eq]
  intro x hx
  rcases List.mem_append.1 hx with h | h
  · exact stream_bytes _ _ _ _ x h
  · exact tag_bytes _ _ _ _ x h
theorem openT_len (key nonce a b : List Int) : (openT key nonce a b).length ≤ b.length := by
  rw [openT_def]
  unfold openL
  split
  · exact Nat.zero_le _
  · split
    · rw [streamL_length, List.length_take]; omega
    · exact Nat.zero_le _
theorem okAB_row {a b : List Int} (la : a.length ≤ 1048700) (lb : b.length ≤ 1048700) : okAB a b = true := by
  rw [okAB_def, show Nat.ble a.length lim5 = true from Nat.ble_eq_true_of_le (by unfold lim5; omega), show Nat.ble b.length lim5 = true from Nat.ble_eq_true_of_le (by unfold lim5; omega)]; rfl
theorem okT_row' {key nonce a b : List Int} (hk : okN 32 key = true) (hn : okN 12 nonce = true) (la : a.length ≤ 1048700) (lb : b.length ≤ 1048700) (ha : Bytes a) (hb : Bytes b) : okT key nonce a b = true := by
  rw [okT_def, hk, hn, okY_mk (n := limT) (by unfold limT; omega) ha, okY_mk (n := limT) (by unfold limT; omega) hb]; rfl
theorem okU3_row' {key a b : List Int} (hk : okN 32 key = true) (la : a.length ≤ 1048700) (lb : b.length ≤ 1048700) (ha : Bytes a) (hb : Bytes b) : okU3 key a b = true := by
  rw [okU3_def, hk, okY_mk (n := limT) (by unfold limT; omega) ha, okY_mk (n := limT) (by unfold limT; omega) hb]; rfl
theorem okUn_row' {a b : List Int} (la : a.length ≤ 1048700) (lb : b.length ≤ 1048700) : okUn a b = true := by
  rw [okUn_def, show Nat.ble a.length limT = true from Nat.ble_eq_true_of_le (by unfold limT; omega), show Nat.ble b.length limT = true from Nat.ble_eq_true_of_le (by unfold limT; omega)]; rfl
/-- what is asked behind the box -/
theorem f10_tail {R : Type} {key nonce op w : List Int} (k : List DV → Option R) (hk : okN 32 key = true) (hn : okN 12 nonce = true) (lo : op.length ≤ 1048576) (ho : Bytes op) (hw : Bytes w) (l28 : 12 ≤ w.length) (lw : w.length ≤ 1048700) :
    (bif loOk (Option.some 12) (hiInt Option.none (rowLen 1 w)) then
 let v6 : List Int := Go.Eng.sub w (plusO Off.z 1 (Option.some 12)) (mulE (Go.Eng.subN (hiNat Option.none (rowLen 1 w)) (Option.some 12)) 1);
 bif okAB op v6 then
 bif loOk (Option.some 12) (hiInt Option.none (rowLen 1 w)) then
 bif okT key nonce op v6 then
 bif okUn op w then
 bif okU3 key op w then
 bif (openT key nonce op v6).length.ble lim then
 bif Decidable.decide (openT key nonce op v6 = openT key nonce op v6) then
 let v7 : Bool := bif Bool.true then openE key nonce op v6 == openE key nonce op v6 else Bool.false;
 bif v7 then
 bif (unT key op w).length.ble lim then
 let v8 : Bool := bif Bool.true then Decidable.decide (unT key op w = unT key op w) else Bool.false;
 bif v8 then
 let v9 : Bool := bif Bool.true then unN key op w == unN key op w else Bool.false;
 bif v9 then
 let v10 : Bool := bif Bool.true then unE key op w == unE key op w else Bool.false;
 bif v10 then
 let v11 : Bool := bif Bool.true then Bool.true else Bool.false;
 k [DV.v (SV.one (At.bool v11))]
 else k [DV.v (SV.one (At.bool Bool.false))]
 else k [DV.v (SV.one (At.bool Bool.false))]
 else k [DV.v (SV.one (At.bool Bool.false))]
 else Option.none
 else k [DV.v (SV.one (At.bool Bool.false))]
 else k [DV.v (SV.one (At.bool Bool.false))]
 else Option.none
 else Option.none
 else Option.none
 else Option.none
 else Option.none
 else Option.none
 else Option.none) = k [.v (.one (.bool true))] := by
  have hs : Go.Eng.sub w (plusO Off.z 1 (Option.some 12)) (mulE (Go.Eng.subN (hiNat Option.none (rowLen 1 w)) (Option.some 12)) 1) = w.drop 12 := by
    show (w.drop 12).take (w.length - 12) = w.drop 12
    exact List.take_of_length_le (by rw [List.length_drop]; omega)
  have l12 : loOk (some 12) (hiInt none (rowLen 1 w)) = true := loOk_nat (n := 12) (by show ((12 : Nat) : Int) ≤ (w.length : Int); omega)
  have ld : (w.drop 12).length ≤ 1048700 := by rw [List.length_drop]; omega
  have bd : Bytes (w.drop 12) := fun x hx => hw x (List.mem_of_mem_drop hx)
  have h1 := openT_len key nonce op (w.drop 12)
  have h2 := unT_len key op w
  dsimp only
  rw [hs, l12, okAB_row (by omega) ld, okT_row' hk hn (by omega) ld ho bd, okUn_row' (by omega) lw, okU3_row' hk (by omega) lw ho hw, lim_bleU (show (openT key nonce op (w.drop 12)).length ≤ 1048700 by omega), lim_bleU (show (unT key op w).length ≤ 1048700 by omega)]
  simp only [cond_true, decide_true, beq_self_eq_true]
theorem f10_true (N : Nat) {key nonce op text other : List Int} {at_ by_ : Int} (hk : okN 32 key = true) (hn : okN 12 nonce = true) (lo : op.length ≤ 1048576) (lt : text.length ≤ 1048576) (ho : Bytes op) (ht : Bytes text) :
    f10_raw N key nonce op text other at_ by_ some = some [.v (.one (.bool true))] := by
  have ln : nonce.length = 12 := (okN_of hn).1
  have hs : Go.Eng.sub nonce (plusO Off.z 1 Option.none) (mulE (Go.Eng.subN (hiNat Option.none 12) Option.none) 1) = nonce := by
    show nonce.take 12 = nonce
    exact List.take_of_length_le (by omega)
  have lS := sealL_length key nonce op text
  have lw : (nonce ++ sealL key nonce op text).length = text.length + 28 := by rw [List.length_append, ln, lS]; omega
  have bw : Bytes (nonce ++ sealL key nonce op text) := by
    intro x hx
    rcases List.mem_append.1 hx with h | h
    · exact (okN_of hn).2 x h
    · exact seal_bytes _ _ _ _ x h
  have b1 : (rowLen 1 nonce * 1).ble big48 = true := Nat.ble_eq_true_of_le (by show nonce.length * 1 ≤ _; rw [ln]; decide)
  have b2 : (rowLen 1 nonce).ble big48 = true := Nat.ble_eq_true_of_le (by show nonce.length ≤ _; rw [ln]; decide)
  have b3 : ((2 * (rowLen 1 nonce + rowLen 1 (sealL key nonce op text)) + 192) * 1).ble big48 = true := Nat.ble_eq_true_of_le (by show (2 * (nonce.length + (sealL key nonce op text).length) + 192) * 1 ≤ 281474976710656; omega)
  have b4 : (rowLen 1 nonce + rowLen 1 (sealL key nonce op text)).ble big48 = true := Nat.ble_eq_true_of_le (by show nonce.length + (sealL key nonce op text).length ≤ 281474976710656; omega)
  unfold f10_raw
  rw [okT_row' hk hn (by omega) (by omega) ho ht, cond_true]
  dsimp only
  rw [hs, b1, b2, b3, b4]
  simp only [Bool.and_self, cond_true]
  rw [show decide (nI (rowLen 1 (nonce ++ sealL key nonce op text)) > 0) = true from decide_eq_true (by show (((nonce ++ sealL key nonce op text).length : Nat) : Int) > 0; omega), cond_true]
  have el : nI (rowLen 1 (nonce ++ sealL key nonce op text)) = ((text.length + 28 : Nat) : Int) := by
    show (((nonce ++ sealL key nonce op text).length : Nat) : Int) = _
    rw [lw]
  have tl := f10_tail (w := nonce ++ sealL key nonce op text) some hk hn lo ho bw (by omega) (by omega)
  have bset : Bytes ((nonce ++ sealL key nonce op text).set (mulE at_.toNat 1) (xorI IntKind.u8 ((nonce ++ sealL key nonce op text).getD (mulE at_.toNat 1) 0) by_)) := by
    intro x hx
    rcases List.mem_or_eq_of_mem_set hx with h | h
    · exact bw x h
    · rw [h]; exact xor8_byte _ _
  have tl2 := f10_tail (w := (nonce ++ sealL key nonce op text).set (mulE at_.toNat 1) (xorI IntKind.u8 ((nonce ++ sealL key nonce op text).getD (mulE at_.toNat 1) 0) by_)) some hk hn lo ho bset (by rw [List.length_set]; omega) (by rw [List.length_set]; omega)
  dsimp only at tl tl2
  by_cases h0 : (0 : Int) ≤ at_
  · rw [show decide (at_ ≥ 0) = true from decide_eq_true h0, cond_true]
    by_cases h1 : at_ < ((text.length + 28 : Nat) : Int)
    · rw [el, decide_eq_true h1]
      simp only [cond_true, Bool.and_self] at tl2 ⊢
      exact tl2
    · rw [el, decide_eq_false h1]
      simp only [cond_false, cond_true] at tl ⊢
      exact tl
  · rw [show decide (at_ ≥ 0) = false from decide_eq_false h0]
    simp only [cond_false, cond_true] at tl ⊢
    exact tl
end Go.Proofs.Ytiaddnmloonhgaa

/- SealCounts: each box opens by its number; the numbers rise by one. -/
namespace Go.Proofs.Ytiaddnmloonhgaa
open Go Go.Eng
set_option maxRecDepth 100000
theorem bytesGo_digs (n : Nat) : ∀ (m i : Nat), i + m ≤ 8 → bytesGo (n : Int) m i = nats (digs 256 m (n / 256 ^ i))
  | 0, i, _ => rfl
  | m + 1, i, h => by
    have e1 : IntKind.u8.wrap (shrI .u64 (n : Int) ((8 * i : Nat) : Int)) = ((n / 256 ^ i % 256 : Nat) : Int) := by
      rw [shrN (show 8 * i ≤ IntKind.u64.bits by show 8 * i ≤ 64; omega), wm8, pow256]
    show IntKind.u8.wrap (shrI .u64 (n : Int) ((8 * i : Nat) : Int)) :: bytesGo n m (i + 1) = _
    rw [e1, bytesGo_digs n m (i + 1) (by omega)]
    show _ = ((n / 256 ^ i % 256 : Nat) : Int) :: nats (digs 256 m (n / 256 ^ i / 256))
    rw [Nat.div_div_eq_div_mul, ← Nat.pow_succ]
theorem low_bytes {n : Nat} (h : n < 18446744073709551616) : lowL (bytesL (n : Int) 8) = (n : Int) := by
  unfold bytesL
  rw [bytesGo_digs n 8 0 (by omega), Nat.pow_zero, Nat.div_one, lowL_nats (digs_lt (by decide)) (Nat.le_of_eq (digs_length _ _ _)), digs_val]
  congr 1
  exact Nat.mod_eq_of_lt (Nat.lt_of_lt_of_eq h (by decide +kernel))
theorem unbox_box {key op t : List Int} {n : Nat} (hn : n < 18446744073709551615) (hb : Bytes t) : unboxL key op (boxL key (n : Int) op t) = (t, (n : Int), 0) := by
  have hne : ¬ ((n : Int) = 18446744073709551615) := by omega
  unfold boxL
  rw [if_neg hne]
  have l12 := numL_len (n : Int)
  have ls := sealL_length key (numL (n : Int)) op t
  have e4 : (numL (n : Int) ++ sealL key (numL (n : Int)) op t).take 4 = List.replicate 4 0 := by
    show (0 :: 0 :: 0 :: 0 :: (bytesL (n : Int) 8 ++ sealL key (numL (n : Int)) op t)).take 4 = _
    rfl
  have e8 : ((numL (n : Int) ++ sealL key (numL (n : Int)) op t).drop 4).take 8 = bytesL (n : Int) 8 := by
    show (bytesL (n : Int) 8 ++ sealL key (numL (n : Int)) op t).take 8 = _
    exact List.take_left' (bytesL_length _ _)
  have e12 : (numL (n : Int) ++ sealL key (numL (n : Int)) op t).take 12 = numL (n : Int) := List.take_left' l12
  have ed : (numL (n : Int) ++ sealL key (numL (n : Int)) op t).drop 12 = sealL key (numL (n : Int)) op t := List.drop_left' l12
  unfold unboxL
  rw [if_neg (by rw [List.length_append, l12, ls]; omega), if_pos e4, e12, ed, e8]
  rw [openE_def, openT_def, open_seal key (numL (n : Int)) op hb, if_pos rfl, low_bytes (by omega)]
theorem box_len {key op t : List Int} {n : Int} : (boxL key n op t).length ≤ t.length + 28 := by
  unfold boxL
  split
  · exact Nat.zero_le _
  · rw [List.length_append, numL_len, sealL_length]; omega
theorem f13_loop {R : Type} {N : Nat} (k1 k2 k3 k4 k5) (k6 : Bool → Int → List Int → List (List Int) → List Int → List Int → Int → Option R) {key op : List Int} {texts : List (List Int)} (lo : op.length ≤ 1048576) (hl : texts.length ≤ 1048576) (ht : ∀ t ∈ texts, t.length ≤ 1048576 ∧ Bytes t) :
    ∀ (m i : Nat), i + m = texts.length → ∀ fuel, m < fuel → ∀ n : Nat, n < 18446744073709551616 → ∃ b n', f13_0_lp N k1 k2 k3 k4 k5 k6 fuel (i : Int) op texts key key (n : Int) = k6 b (texts.length : Int) op texts key key n' := by
  intro m
  induction m with
  | zero =>
    intro i h fuel hf n hn
    obtain ⟨f, rfl⟩ : ∃ f, fuel = f + 1 := ⟨fuel - 1, by omega⟩
    have : i = texts.length := by omega
    subst this
    refine ⟨false, (n : Int), ?_⟩
    show f13_0_st N (f13_0_lp N k1 k2 k3 k4 k5 k6 f) k1 k2 k3 k4 k5 k6 _ _ _ _ _ _ = _
    unfold f13_0_st
    rw [show decide (((texts.length : Nat) : Int) < nI texts.length) = false from decide_eq_false (by show ¬ (((texts.length : Nat) : Int) < ((texts.length : Nat) : Int)); omega), cond_false]
  | succ m ih =>
    intro i h fuel hf n hn
    obtain ⟨f, rfl⟩ : ∃ f, fuel = f + 1 := ⟨fuel - 1, by omega⟩
    have hi : i < texts.length := by omega
    have ei : texts.getD (i : Int).toNat [] = texts[i] := by rw [Int.toNat_natCast]; simp [List.getD_eq_getElem?_getD, List.getElem?_eq_getElem hi]
    obtain ⟨lt, bt⟩ := ht texts[i] (List.getElem_mem hi)
    have c1 : decide ((i : Int) < nI texts.length) = true := decide_eq_true (by show (i : Int) < ((texts.length : Nat) : Int); omega)
    have c2 : decide ((0 : Int) ≤ (i : Int)) = true := decide_eq_true (by omega)
    have c3 : ((i : Int).toNat.blt texts.length && !Nat.beq 3 38) = true := by
      rw [Int.toNat_natCast, show i.blt texts.length = true from Nat.ble_eq_true_of_le hi]; rfl
    have c3' : ((i : Int).toNat.blt texts.length && !Nat.beq 3 88) = true := by
      rw [Int.toNat_natCast, show i.blt texts.length = true from Nat.ble_eq_true_of_le hi]; rfl
    have c4 : IntKind.i64.wrap ((i : Int) + 1) = ((i + 1 : Nat) : Int) := by
      rw [show (i : Int) + 1 = ((i + 1 : Nat) : Int) by omega]; exact wi64 (by omega)
    have c5 : okUn op texts[i] = true := okUn_row' (by omega) (by omega)
    by_cases hmax : n = 18446744073709551615
    · obtain ⟨b, n', hr⟩ := ih (i + 1) (by omega) f (by omega) n hn
      refine ⟨b, n', ?_⟩
      rw [← hr]
      have hn1 : (n : Int) = 18446744073709551615 := by omega
      show f13_0_st N (f13_0_lp N k1 k2 k3 k4 k5 k6 f) k1 k2 k3 k4 k5 k6 _ _ _ _ _ _ = _
      unfold f13_0_st
      dsimp only
      rw [c1, c2, c3, ei, c5, c4, show ((n : Int) == 18446744073709551615) = true by simpa using hn1, boxE_def, if_pos hn1, boxT_def, boxN_def, if_pos hn1, show boxL key (n : Int) op texts[i] = [] by unfold boxL; rw [if_pos hn1]]
      simp only [Bool.and_self, cond_true, cond_false, show ((122 : Int) != 122) = false from rfl, show (nI (rowLen 1 ([] : List Int)) != 0) = false from rfl, show ((n : Int) != (n : Int)) = false by simp]
    · obtain ⟨b, n', hr⟩ := ih (i + 1) (by omega) f (by omega) (n + 1) (by omega)
      refine ⟨b, n', ?_⟩
      rw [← hr]
      have hn1 : ¬ ((n : Int) = 18446744073709551615) := by omega
      have hub := unbox_box (key := key) (op := op) (t := texts[i]) (n := n) (by omega) bt
      have hw : IntKind.u64.wrap ((n : Int) + 1) = ((n + 1 : Nat) : Int) := by
        rw [show (n : Int) + 1 = ((n + 1 : Nat) : Int) by omega]; exact w64 (by omega)
      have lb : (boxL key (n : Int) op texts[i]).length ≤ 1048700 := Nat.le_trans box_len (by omega)
      show f13_0_st N (f13_0_lp N k1 k2 k3 k4 k5 k6 f) k1 k2 k3 k4 k5 k6 _ _ _ _ _ _ = _
      unfold f13_0_st
      dsimp only
      rw [c1, c2, c3, c3', ei, c5, c4, show ((n : Int) == 18446744073709551615) = false by simpa using hn1, boxE_def, if_neg hn1, boxT_def, boxN_def, if_neg hn1, unE_def, unN_def, unT_def, hub, hw, okUn_row' (show op.length ≤ 1048700 by omega) lb, lim_bleU (show (texts[i], (n : Int), (0 : Int)).1.length ≤ 1048700 by show texts[i].length ≤ _; omega)]
      simp only [Bool.and_self, cond_true, cond_false, show ((0 : Int) != 0) = false from rfl, show ((n : Int) != (n : Int)) = false by simp, show (((n + 1 : Nat) : Int) != ((n + 1 : Nat) : Int)) = false by simp, decide_true, Bool.not_true]
theorem f13_true {N : Nat} {key op : List Int} {texts : List (List Int)} {n : Int} (hn0 : 0 ≤ n) (hn : n < 18446744073709551616) (lo : op.length ≤ 1048576) (hl : texts.length ≤ 1048576) (ht : ∀ t ∈ texts, t.length ≤ 1048576 ∧ Bytes t) (hN : texts.length < N) :
    f13_raw N key n op texts some = some [.v (.one (.bool true))] := by
  obtain ⟨m, rfl⟩ : ∃ m : Nat, n = m := ⟨n.toNat, by omega⟩
  unfold f13_raw
  obtain ⟨b, n', h⟩ := f13_loop (N := N) (R := List DV) _ _ _ _ _ _ (key := key) lo hl ht texts.length 0 (by omega) N hN m (by omega)
  exact h
end Go.Proofs.Ytiaddnmloonhgaa

/- SealCounts: for any key, number and texts whose data stay within 1,048,576: the boxes of a sealer have numbers that rise by one, each opens by its number, and behind the last number there is none. -/
namespace Go.Proofs.Ytiaddnmloonhgaa
open Go Go.Eng Go.ChangeShapes Go.WideShapes Go.RowKit Go.ChangeAt
set_option maxRecDepth 100000

theorem contract13 (H : Type) (enc : TypeId × Value → H) (W : World) (base : Nat) (args : Array Value) (ds gs : List (DataW H)) (before : List MemPlace)
    (hval : ∀ (j : Nat) t v, Try.f13.params[j]? = some t → args[j]? = some v → Value.okWide Try.prog W .any base t v)
    (hW : DataW.Whole enc Try.prog Try.f13.params.toList Rows.sealCountsSpec.vars false W args.toList ds gs before) (hk : Rows.uptoSmall H (ds ++ gs) = true) :
    Calls Try.prog 13 args W fun e W' => ∃ v, e = .returned v ∧ Rows.sealCountsSpec.post enc Try.prog Try.f13 false true false false W args v W' := by
  have hW' := hW
  obtain ⟨p, q, hA, hV, rfl, hfz, hnd⟩ := hW
  obtain ⟨rfl, rfl⟩ := trodVars_none hV
  rw [Try.params13] at hA hval
  obtain ⟨v0, vs0, d0, ds0, p0, q0, hargs, rfl, rfl, h0, r0⟩ := trodAll_cons hA
  obtain ⟨v1, vs1, d1, ds1, p1, q1, rfl, rfl, rfl, h1, r1⟩ := trodAll_cons r0
  obtain ⟨v2, vs2, d2, ds2, p2, q2, rfl, rfl, rfl, h2, r2⟩ := trodAll_cons r1
  obtain ⟨v3, vs3, d3, ds3, p3, q3, rfl, rfl, rfl, h3, r3⟩ := trodAll_cons r2
  obtain ⟨rfl, rfl, rfl⟩ := trodAll_nil r3
  obtain rfl : args = #[v0, v1, v2, v3] := by cases args; simp_all
  have hb := bulk_bound hk
  simp only [List.append_nil, Rows.uptoBulkAll, Nat.add_zero] at hb
  obtain ⟨x0, rfl, l0, w0⟩ := open_arr Try.underlying23 Try.underlying5 (by kernel_rfl) (by kernel_rfl) (hval 0 23 v0 rfl rfl) h0
  obtain ⟨x1, rfl, rfl, rfl, w1⟩ := open_int Try.underlying70 (hval 1 70 v1 rfl rfl) h1
  obtain ⟨A2, n2, c2, rfl⟩ := okWide_slice Try.underlying27 (hval 2 27 v2 rfl rfl)
  obtain ⟨f2, h2⟩ := h2
  obtain ⟨x2, len2, cap2, Ad2, loc2, o21, o22, l2, o24, o25, o26, w2, o28⟩ := open_view (k := .u8) (es := 1) Try.underlying27 (by omega) (elB H enc) h2
  have b2 : len2 ≤ Rows.uptoBulk d2 := bulk_slice o28
  obtain ⟨A3, n3, c3, rfl⟩ := okWide_slice Try.underlying28 (hval 3 28 v3 rfl rfl)
  obtain ⟨f3, h3⟩ := h3
  obtain ⟨x3, len3, cap3, Ad3, loc3, o31, o32, l3, o35, o36, o34, w3, o38⟩ := open_dview (k := .u8) (es := 1) Try.underlying28 Try.underlying27 (by kernel_rfl) (by omega) (elB H enc) h3
  have b3 : x3.length ≤ Rows.uptoBulk d3 ∧ ∀ row ∈ x3, row.length ≤ Rows.uptoBulk d3 := bulk_rows l3 o38
  have hs : Sim W { blk := fun _ => False, loc := ({ loc := locOf [(2, loc2), (3, loc3)], tot := fun _ => 0, out := fun b => b < W.heap.size } : Rho).loc, tot := ({ loc := locOf [(2, loc2), (3, loc3)], tot := fun _ => 0, out := fun b => b < W.heap.size } : Rho).tot, sh := (start13s 92 x0 x1 x2 x3).S, out := ({ loc := locOf [(2, loc2), (3, loc3)], tot := fun _ => 0, out := fun b => b < W.heap.size } : Rho).out } ({ loc := locOf [(2, loc2), (3, loc3)], tot := fun _ => 0, out := fun b => b < W.heap.size } : Rho) (start13s 92 x0 x1 x2 x3) { tmps := #[.agg (x0.map (Value.int .u8)).toArray, .int .u64 x1, .slice A2 n2 c2, .slice A3 n3 c3] ++ Array.replicate (92 - 4) undef, defers := [] } W := by
    refine sim_startD (s0 := start13s 92 x0 x1 x2 x3) (ρ := { loc := locOf [(2, loc2), (3, loc3)], tot := fun _ => 0, out := fun b => b < W.heap.size }) (args := #[.agg (x0.map (Value.int .u8)).toArray, .int .u64 x1, .slice A2 n2 c2, .slice A3 n3 c3]) (n := 92) (avs := [.s (.one (.ints .u8 32 x0)), .s (.one (.int .u64 x1)), .s (.one (.own 2)), .s (.one (.own 3))]) rfl (by simp) rfl ?_ ?_ ?_ (fun b hb => hb) ⟨⟨rfl, l0⟩, rfl, (show RelAt ({ loc := locOf [(2, loc2), (3, loc3)], tot := fun _ => 0, out := fun b => b < W.heap.size } : Rho) (start13s 92 x0 x1 x2 x3).S (.own 2) [Value.slice A2 n2 c2] from rel_own rfl o21 o22 l2 o25 (by omega) rfl), (show RelAt ({ loc := locOf [(2, loc2), (3, loc3)], tot := fun _ => 0, out := fun b => b < W.heap.size } : Rho) (start13s 92 x0 x1 x2 x3).S (.own 3) [Value.slice A3 n3 c3] from rel_ownD rfl o31 o32 l3 o35 rfl), trivial⟩
    · simp [start13s, Nodup', putNames]
    · intro j it hi
      simp only [start13s, AS.I, findI_cons] at hi
      split at hi
      · rename_i hj; subst hj; injection hi with hi; subst hi
        exact ⟨rfl, ⟨by omega, trivial⟩, ⟨len2, l2⟩, o24⟩
      ·
        split at hi
        · rename_i hj; subst hj; injection hi with hi; subst hi
          exact ⟨rfl, ⟨by omega, trivial⟩, o34⟩
        ·
          simp [findI] at hi
    · intro j p hp
      simp only [locOf] at hp
      split at hp
      · exact o26 p hp
      ·
        split at hp
        · exact o36 p hp
        ·
          cases hp
  have he := f13_true (N := x3.length + 1) (key := x0) (op := x2) (texts := x3) (n := x1) (bounds_u64 w1).1 (by have := (bounds_u64 w1).2; omega) (by omega) (by omega) (fun t ht => ⟨by have := b3.2 t ht; omega, fun b hb => wf_u8 (w3 t ht b hb)⟩) (by omega)
  rw [← f13_raw_eq] at he
  refine (law_calls thOk Q130_ok mixed ok13 (f13_loops (x3.length + 1) Q130_ok) (fun _ => id) hs he).mono fun e W' ⟨h1, h2, h3, h4⟩ => ?_
  exact ⟨_, h1, post_of_law laidOut (by kernel_rfl) Try.underlying4 rfl (by rw [Try.params13]; intro t ht; simp only [List.mem_cons, List.not_mem_nil, or_false] at ht; rcases ht with rfl | rfl | rfl | rfl <;> exact ⟨by kernel_rfl, by decide +kernel⟩) ⟨rfl, rfl, rfl⟩ hW' h2 h3 h4⟩

theorem lifted13 (os : Os) (started : os.Started) (H : Type) (enc : TypeId × Value → H) (F : Stop.Interp) :
    ReturnsInHanded {} Try.checked os 13 .any ((Rows.OpenSpec.upto Rows.sealCountsSpec).pre6 enc Try.prog Try.f13 Rows.sealCountsUptoRow.domain false) (((Rows.OpenSpec.upto Rows.sealCountsSpec).at F).post enc Try.prog Try.f13 false true false false) := by
  refine returnsInHanded_of_cond (C := Try.checked) (s := Rows.OpenSpec.upto Rows.sealCountsSpec) (k := Rows.uptoSmall) rfl own0 started (by kernel_rfl) Try.func13
    (OpenSpec.witness (enc := enc) (C := Try.checked) (s := Rows.OpenSpec.upto Rows.sealCountsSpec) (k := Rows.uptoSmall) rfl false ⟨#[], #[.agg (Array.mk (List.replicate 32 (Value.int .u8 0))), .int .u64 0, .slice none 0 0, .slice none 0 0], []⟩ 8 (by kernel_rfl) (by kernel_rfl) (by kernel_rfl)
      (x := ([.agg (List.replicate 32 (.lit (.int .u8 0))), .lit (.int .u64 0), .nil, .nil], [], [])) (by kernel_rfl) rfl (by kernel_rfl)) ?_
  intro W base args ds gs before hval hW _ hk _
  exact contract13 H enc W base args ds gs before hval hW hk

theorem over13 : Rows.sealCountsUptoRow.holds Try.pinned (Rows.OpenSpec.upto Rows.sealCountsSpec) :=
  OpenClaim.holds_of_cond 13 Try.f13 rfl rfl rfl rfl rfl rfl rfl ⟨rfl, rfl, rfl, rfl, rfl⟩ rfl rfl rfl rfl rfl (by kernel_rfl) Try.func13 (by kernel_rfl)
    (of_decide_eq_true (by kernel_rfl)) (by unfold Func.isWrapper; first | (rw [if_pos (by decide +kernel)]; kernel_rfl) | (rw [if_neg (by decide +kernel)]; exact ⟨rfl, rfl⟩))
    (fun os started H enc _ F => lifted13 os started H enc F)

theorem sealCounts_holds : Rows.SealCountsUptoSaid := over13
end Go.Proofs.Ytiaddnmloonhgaa

#print axioms Go.Proofs.Ytiaddnmloonhgaa.sealCounts_holds
