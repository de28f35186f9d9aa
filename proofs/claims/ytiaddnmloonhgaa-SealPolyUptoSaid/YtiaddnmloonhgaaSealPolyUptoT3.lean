/- SealPoly, for every key and bytes of bulk at most 1048576: s is added; r = 0 or no bytes give s alone; r = 1 gives the sum of the pieces. -/
import Derived.Test.YtiaddnmloonhgaaSealPolyUptoT2
import Derived.Test.YtiaddnmloonhgaaRows
import Derived.WalkKit
import Derived.ProofKit
import Derived.JoinedCond
set_option linter.unusedVariables false
set_option linter.unusedSimpArgs false

/- The tag of what is open and what is sealed. -/
namespace Go.Proofs.Ytiaddnmloonhgaa
open Go Go.Eng
set_option maxRecDepth 100000

def lim4 : Nat := 274877906944

theorem bytesGo_length (n : Int) : ∀ (m i : Nat), (bytesGo n m i).length = m
  | 0, _ => rfl
  | m + 1, i => by simp [bytesGo, bytesGo_length n m (i + 1)]

theorem bytesL_length (n : Int) (m : Nat) : (bytesL n m).length = m := bytesGo_length n m 0

theorem padL_length (a : List Int) : (padL a).length = a.length + padN a.length := by simp [padL]

theorem padN_lt (n : Nat) : padN n < 16 := Nat.mod_lt _ (by omega)

def wholeText (a b : List Int) : List Int := padL a ++ padL b ++ bytesL (a.length : Int) 8 ++ bytesL (b.length : Int) 8

def tagL (key nonce a b : List Int) : List Int := macL ((blockL key 0 nonce).take 32) (wholeText a b)

def I67 : (R : Type) → List DV → (List DV → Option R) → Option R := fun _ ds k => match ds with
  | [.v (.one (.ints .u8 32 key)), .v (.one (.ints .u8 12 nonce)), .lst .u8 1 a, .lst .u8 1 b] =>
    cond (Nat.ble a.length lim4 && Nat.ble b.length lim4) (k [.v (.one (.ints .u8 16 (tagL key nonce a b)))]) none
  | _ => none

theorem c67 : Contract Try.prog 67 { sig := S67, impl := I67 } := by
  refine Contract.refine fun R ds k r h => ⟨_, f67_contract 0 G67_ok, ?_⟩
  unfold I67 at h
  split at h
  · rename_i key nonce a b
    rw [f67_raw_eq]
    cases hb : (Nat.ble a.length lim4 && Nat.ble b.length lim4) with
    | false => rw [hb] at h; cases h
    | true =>
      rw [hb] at h
      simp only [Bool.and_eq_true] at hb
      have ha : a.length ≤ 274877906944 := Nat.le_of_ble_eq_true hb.1
      have hb : b.length ≤ 274877906944 := Nat.le_of_ble_eq_true hb.2
      have pa := padL_length a
      have pb := padL_length b
      have qa := padN_lt a.length
      have qb := padN_lt b.length
      unfold f67_raw
      have e1 : IntKind.u64.wrap (nI (rowLen 1 a)) = (a.length : Int) := wrapU64 (n := a.length) (by omega)
      have e2 : IntKind.u64.wrap (nI (rowLen 1 b)) = (b.length : Int) := wrapU64 (n := b.length) (by omega)
      simp only [e1, e2]
      rw [show a.length.ble lim = true by simp [lim]; omega, show b.length.ble lim = true by simp [lim]; omega]
      rw [show (((2 * (rowLen 1 (padL a) + rowLen 1 (padL b)) + 192) * 1).ble big48 && (rowLen 1 (padL a) + rowLen 1 (padL b)).ble big48) = true by
        simp [rowLen_one, big48, pa, pb]; omega]
      rw [show (((2 * (rowLen 1 (padL a ++ padL b) + rowLen 1 (bytesL (a.length : Int) (Int.toNat 8))) + 192) * 1).ble big48 && (rowLen 1 (padL a ++ padL b) + rowLen 1 (bytesL (a.length : Int) (Int.toNat 8))).ble big48) = true by
        simp [rowLen_one, big48, pa, pb, bytesL_length]; omega]
      rw [show (((2 * (rowLen 1 (padL a ++ padL b ++ bytesL (a.length : Int) (Int.toNat 8)) + rowLen 1 (bytesL (b.length : Int) (Int.toNat 8))) + 192) * 1).ble big48 && (rowLen 1 (padL a ++ padL b ++ bytesL (a.length : Int) (Int.toNat 8)) + rowLen 1 (bytesL (b.length : Int) (Int.toNat 8))).ble big48) = true by
        simp [rowLen_one, big48, pa, pb, bytesL_length]; omega]
      rw [show (padL a ++ padL b ++ bytesL (a.length : Int) (Int.toNat 8) ++ bytesL (b.length : Int) (Int.toNat 8)).length.ble lim = true by
        simp [lim, pa, pb, bytesL_length]; omega]
      exact h
  · cases h

def G28 : Ctx := [(16, { sig := S16, impl := I16 }), (67, { sig := S67, impl := I67 })]
theorem G28_ok : CtxOk Try.prog G28 := ctxOk_cons ok16 rfl c16 (ctxOk_cons ok67 rfl c67 ctxOk_nil)

end Go.Proofs.Ytiaddnmloonhgaa

/- What rime/seal.Seal comes to. MADE BY PROGRAM (wip/tools/mkfn.py, EngGen.lean). -/
namespace Go.Proofs.Ytiaddnmloonhgaa
open Go Go.Eng
set_option maxRecDepth 100000
set_option linter.unusedVariables false

def f28_raw {R : Type} (N : Nat) (key : List Int) (nonce : List Int) (a : List Int) (b : List Int) (k : List DV → Option R) : Option R :=
 bif Decidable.decide (0 ≤ 1) && (Decidable.decide (1 < 4294967296) && b.length.ble Go.Proofs.Ytiaddnmloonhgaa.lim) then
 bif Go.Proofs.Ytiaddnmloonhgaa.tooFar (Int.toNat 1) b.length then
 bif a.length.ble Go.Proofs.Ytiaddnmloonhgaa.lim4 && ([] : List Int).length.ble Go.Proofs.Ytiaddnmloonhgaa.lim4 then
 let v0 : List Int := Go.Eng.sub (Go.Proofs.Ytiaddnmloonhgaa.tagL key nonce a []) (Go.Eng.plusO Go.Eng.Off.z 1 Option.none) (Go.Eng.mulE (Go.Eng.subN (Go.Eng.hiNat Option.none 16) Option.none) 1);
 let v1 : List Int := [] ++ v0;
 k [Go.Eng.DV.lst Go.IntKind.u8 1 v1]
 else Option.none
 else
 bif a.length.ble Go.Proofs.Ytiaddnmloonhgaa.lim4 && (Go.Proofs.Ytiaddnmloonhgaa.streamL key (Int.toNat 1) nonce b).length.ble Go.Proofs.Ytiaddnmloonhgaa.lim4 then
 let v2 : List Int := Go.Eng.sub (Go.Proofs.Ytiaddnmloonhgaa.tagL key nonce a (Go.Proofs.Ytiaddnmloonhgaa.streamL key (Int.toNat 1) nonce b)) (Go.Eng.plusO Go.Eng.Off.z 1 Option.none) (Go.Eng.mulE (Go.Eng.subN (Go.Eng.hiNat Option.none 16) Option.none) 1);
 bif ((2 * (Go.Eng.rowLen 1 (Go.Proofs.Ytiaddnmloonhgaa.streamL key (Int.toNat 1) nonce b) + Go.Eng.rowLen 1 v2) + 192) * 1).ble Go.Eng.big48 && (Go.Eng.rowLen 1 (Go.Proofs.Ytiaddnmloonhgaa.streamL key (Int.toNat 1) nonce b) + Go.Eng.rowLen 1 v2).ble Go.Eng.big48 then
 let v3 : List Int := Go.Proofs.Ytiaddnmloonhgaa.streamL key (Int.toNat 1) nonce b ++ v2;
 k [Go.Eng.DV.lst Go.IntKind.u8 1 v3]
 else Option.none
 else Option.none
else Option.none


noncomputable def E28 (N : Nat) : Env := { Θ := Th, Γ := G28, K := K28, ν := N28, fuel := 0, lp := [] }


theorem f28_contract (N : Nat) (hΓ : CtxOk Try.prog G28) : Contract Try.prog 28 { sig := S28, impl := fun _ ds k => call (E28 N) S28 27 B28 R28 ds k } :=
  call_contract (E := E28 N) thOk hΓ mixed ok28.look ok28.body ok28.n ok28.rv rfl (by decide) (loopsOk_of (l := []) (by kernel_rfl) trivial)
theorem f28_raw_eq {R : Type} (N : Nat) (key : List Int) (nonce : List Int) (a : List Int) (b : List Int) (k : List DV → Option R) : call (E28 N) S28 27 B28 R28 [.v (.one (.ints .u8 32 key)), .v (.one (.ints .u8 12 nonce)), .lst .u8 1 a, .lst .u8 1 b] k = f28_raw N key nonce a b k := by kernel_rfl
end Go.Proofs.Ytiaddnmloonhgaa

/- What rime/seal.Open comes to. MADE BY PROGRAM (wip/tools/mkfn.py, EngGen.lean). -/
namespace Go.Proofs.Ytiaddnmloonhgaa
open Go Go.Eng
set_option maxRecDepth 100000
set_option linter.unusedVariables false

def f26_raw {R : Type} (N : Nat) (key : List Int) (nonce : List Int) (a : List Int) (b : List Int) (k : List DV → Option R) : Option R :=
 let v0 : Int := Go.IntKind.i64.wrap (Go.Eng.nI (Go.Eng.rowLen 1 b) - 16);
bif Decidable.decide (v0 < 0) then k [Go.Eng.DV.lst Go.IntKind.u8 1 [], Go.Eng.DV.v (Go.Eng.SV.one (Go.Eng.At.int Go.IntKind.i64 3))]
else
 bif Go.Eng.hiOk (Option.some v0) (Go.Eng.rowLen 1 b) then
 let v1 : List Int := Go.Eng.sub b (Go.Eng.plusO Go.Eng.Off.z 1 Option.none) (Go.Eng.mulE (Go.Eng.subN (Go.Eng.hiNat (Option.some v0) (Go.Eng.rowLen 1 b)) Option.none) 1);
 bif a.length.ble Go.Proofs.Ytiaddnmloonhgaa.lim4 && v1.length.ble Go.Proofs.Ytiaddnmloonhgaa.lim4 then bif Go.Eng.loOk (Option.some v0) (Go.Eng.hiInt Option.none (Go.Eng.rowLen 1 b)) then bif Nat.ble 1 16 && Nat.ble 16 (Go.Eng.subN (Go.Eng.hiNat Option.none (Go.Eng.rowLen 1 b)) (Option.some v0)) then bif !Decidable.decide (Go.Proofs.Ytiaddnmloonhgaa.tagL key nonce a v1 = List.take 16 (List.drop (Go.Eng.mulE v0.toNat 1) b)) then k [Go.Eng.DV.lst Go.IntKind.u8 1 [], Go.Eng.DV.v (Go.Eng.SV.one (Go.Eng.At.int Go.IntKind.i64 121))] else bif Go.Eng.hiOk (Option.some v0) (Go.Eng.rowLen 1 b) then bif Decidable.decide (0 ≤ 1) && (Decidable.decide (1 < 4294967296) && v1.length.ble Go.Proofs.Ytiaddnmloonhgaa.lim) then bif Go.Proofs.Ytiaddnmloonhgaa.tooFar (Int.toNat 1) v1.length then k [Go.Eng.DV.lst Go.IntKind.u8 1 [], Go.Eng.DV.v (Go.Eng.SV.one (Go.Eng.At.int Go.IntKind.i64 122))] else k [Go.Eng.DV.lst Go.IntKind.u8 1 (Go.Proofs.Ytiaddnmloonhgaa.streamL key (Int.toNat 1) nonce v1), Go.Eng.DV.v (Go.Eng.SV.one (Go.Eng.At.int Go.IntKind.i64 0))] else Option.none else Option.none else Option.none else Option.none else Option.none
 else Option.none


noncomputable def E26 (N : Nat) : Env := { Θ := Th, Γ := G28, K := K26, ν := N26, fuel := 0, lp := [] }


theorem f26_contract (N : Nat) (hΓ : CtxOk Try.prog G28) : Contract Try.prog 26 { sig := S26, impl := fun _ ds k => call (E26 N) S26 37 B26 R26 ds k } :=
  call_contract (E := E26 N) thOk hΓ mixed ok26.look ok26.body ok26.n ok26.rv rfl (by decide) (loopsOk_of (l := []) (by kernel_rfl) trivial)
theorem f26_raw_eq {R : Type} (N : Nat) (key : List Int) (nonce : List Int) (a : List Int) (b : List Int) (k : List DV → Option R) : call (E26 N) S26 37 B26 R26 [.v (.one (.ints .u8 32 key)), .v (.one (.ints .u8 12 nonce)), .lst .u8 1 a, .lst .u8 1 b] k = f26_raw N key nonce a b k := by kernel_rfl
end Go.Proofs.Ytiaddnmloonhgaa

/- What is sealed; what is opened. -/
namespace Go.Proofs.Ytiaddnmloonhgaa
open Go Go.Eng
set_option maxRecDepth 100000

def lim5 : Nat := 68719476736

theorem maskL_length (f : Nat → Int) (b : List Int) : (maskL f b).length = b.length := by simp [maskL]
theorem streamL_length (key : List Int) (c : Nat) (nonce b : List Int) : (streamL key c nonce b).length = b.length := maskL_length _ _

theorem near {n : Nat} (h : n ≤ 68719476736) : tooFar 1 n = false := by
  simp [tooFar]; omega

theorem wrapNeg : ∀ n : Fin 16, IntKind.i64.wrap ((n.val : Int) - 16) = (n.val : Int) - 16 := by decide +kernel

def sealL (key nonce a b : List Int) : List Int := streamL key 1 nonce b ++ (tagL key nonce a (streamL key 1 nonce b)).take 16

def I28 : (R : Type) → List DV → (List DV → Option R) → Option R := fun _ ds k => match ds with
  | [.v (.one (.ints .u8 32 key)), .v (.one (.ints .u8 12 nonce)), .lst .u8 1 a, .lst .u8 1 b] =>
    cond (Nat.ble a.length lim5 && Nat.ble b.length lim5) (k [.lst .u8 1 (sealL key nonce a b)]) none
  | _ => none

theorem c28 : Contract Try.prog 28 { sig := S28, impl := I28 } := by
  refine Contract.refine fun R ds k r h => ⟨_, f28_contract 0 G28_ok, ?_⟩
  unfold I28 at h
  split at h
  · rename_i key nonce a b
    rw [f28_raw_eq]
    cases hb : (Nat.ble a.length lim5 && Nat.ble b.length lim5) with
    | false => rw [hb] at h; cases h
    | true =>
      rw [hb] at h
      simp only [Bool.and_eq_true] at hb
      have ha : a.length ≤ 68719476736 := Nat.le_of_ble_eq_true hb.1
      have hb : b.length ≤ 68719476736 := Nat.le_of_ble_eq_true hb.2
      unfold f28_raw
      rw [show (decide ((0 : Nat) ≤ 1) && (decide ((1 : Nat) < 4294967296) && b.length.ble lim)) = true by simp [lim]; omega]
      rw [show tooFar (Int.toNat 1) b.length = false from near hb]
      rw [show (a.length.ble lim4 && (streamL key (Int.toNat 1) nonce b).length.ble lim4) = true by simp [lim4, streamL_length]; omega]
      have ht : (Go.Eng.sub (tagL key nonce a (streamL key (Int.toNat 1) nonce b)) (plusO .z 1 none) (mulE (subN (hiNat none 16) none) 1)).length ≤ 16 := List.length_take_le _ _
      simp only [cond_true, cond_false]
      rw [show (((2 * (rowLen 1 (streamL key (Int.toNat 1) nonce b) + rowLen 1 (Go.Eng.sub (tagL key nonce a (streamL key (Int.toNat 1) nonce b)) (plusO .z 1 none) (mulE (subN (hiNat none 16) none) 1))) + 192) * 1).ble big48 &&
          (rowLen 1 (streamL key (Int.toNat 1) nonce b) + rowLen 1 (Go.Eng.sub (tagL key nonce a (streamL key (Int.toNat 1) nonce b)) (plusO .z 1 none) (mulE (subN (hiNat none 16) none) 1))).ble big48) = true by
        simp only [rowLen_one, big48, streamL_length, Bool.and_eq_true, Nat.ble_eq]; omega]
      exact h
  · cases h

/-- what opening answers: bytes and how it went -/
def openL (key nonce a b : List Int) : List Int × Int :=
  if b.length < 16 then ([], 3) else
  if tagL key nonce a (b.take (b.length - 16)) = (b.drop (b.length - 16)).take 16 then (streamL key 1 nonce (b.take (b.length - 16)), 0) else ([], 121)

def I26 : (R : Type) → List DV → (List DV → Option R) → Option R := fun _ ds k => match ds with
  | [.v (.one (.ints .u8 32 key)), .v (.one (.ints .u8 12 nonce)), .lst .u8 1 a, .lst .u8 1 b] =>
    cond (Nat.ble a.length lim5 && Nat.ble b.length lim5) (k [.lst .u8 1 (openL key nonce a b).1, .v (.one (.int .i64 (openL key nonce a b).2))]) none
  | _ => none

theorem c26 : Contract Try.prog 26 { sig := S26, impl := I26 } := by
  refine Contract.refine fun R ds k r h => ⟨_, f26_contract 0 G28_ok, ?_⟩
  unfold I26 at h
  split at h
  · rename_i key nonce a b
    rw [f26_raw_eq]
    cases hb : (Nat.ble a.length lim5 && Nat.ble b.length lim5) with
    | false => rw [hb] at h; cases h
    | true =>
      rw [hb] at h
      simp only [Bool.and_eq_true] at hb
      have ha : a.length ≤ 68719476736 := Nat.le_of_ble_eq_true hb.1
      have hb : b.length ≤ 68719476736 := Nat.le_of_ble_eq_true hb.2
      unfold f26_raw
      unfold openL at h
      by_cases hl : b.length < 16
      · have e0 : decide (IntKind.i64.wrap (nI (rowLen 1 b) - 16) < 0) = true := by
          have : IntKind.i64.wrap (nI (rowLen 1 b) - 16) = nI (rowLen 1 b) - 16 := by
            exact wrapNeg ⟨b.length, hl⟩
          rw [this]
          exact decide_eq_true (by show (b.length : Int) - 16 < 0; omega)
        simp only
        rw [e0]
        rw [if_pos hl] at h
        exact h
      · have e0 : IntKind.i64.wrap (nI (rowLen 1 b) - 16) = ((b.length - 16 : Nat) : Int) := wrapI (by show (b.length : Int) - 16 = _; omega) (by omega)
        rw [if_neg hl] at h
        rw [e0]
        have e1 : decide (((b.length - 16 : Nat) : Int) < 0) = false := by simp
        have e2 : hiOk (some ((b.length - 16 : Nat) : Int)) (rowLen 1 b) = true := hiOk_nat (by rw [rowLen_one]; omega)
        have e3 : Go.Eng.sub b (plusO .z 1 none) (mulE (subN (hiNat (some ((b.length - 16 : Nat) : Int)) (rowLen 1 b)) none) 1) = b.take (b.length - 16) := by
          simp [Go.Eng.sub, plusO, mulE, subN, hiNat]
        have e4 : loOk (some ((b.length - 16 : Nat) : Int)) (hiInt none (rowLen 1 b)) = true := loOk_nat (by simp [hiInt, rowLen_one])
        have e5 : (Nat.ble 1 16 && Nat.ble 16 (subN (hiNat none (rowLen 1 b)) (some ((b.length - 16 : Nat) : Int)))) = true := by
          simp [subN, hiNat, rowLen_one]; omega
        have l1 : (b.take (b.length - 16)).length ≤ 68719476736 := by rw [List.length_take]; omega
        have e6 : (a.length.ble lim4 && (b.take (b.length - 16)).length.ble lim4) = true := by simp only [lim4, Bool.and_eq_true, Nat.ble_eq]; omega
        have e7 : (decide ((0 : Nat) ≤ 1) && (decide ((1 : Nat) < 4294967296) && (b.take (b.length - 16)).length.ble lim)) = true := by
          simp only [lim, Bool.and_eq_true, Nat.ble_eq, decide_eq_true_eq]; omega
        have e8 : tooFar (Int.toNat 1) (b.take (b.length - 16)).length = false := near l1
        have e9 : (b.drop (mulE ((b.length - 16 : Nat) : Int).toNat 1)) = b.drop (b.length - 16) := by rw [mulE_one, Int.toNat_natCast]
        simp only
        rw [e1, e2, e3, e4, e5, e6, e7, e8, e9]
        by_cases ht : tagL key nonce a (b.take (b.length - 16)) = (b.drop (b.length - 16)).take 16
        · rw [if_pos ht] at h
          rw [show decide (tagL key nonce a (b.take (b.length - 16)) = (b.drop (b.length - 16)).take 16) = true from decide_eq_true ht]
          exact h
        · rw [if_neg ht] at h
          rw [show decide (tagL key nonce a (b.take (b.length - 16)) = (b.drop (b.length - 16)).take 16) = false from decide_eq_false ht]
          exact h
  · cases h

def G23 : Ctx := [(21, { sig := S21, impl := I21 }), (26, { sig := S26, impl := I26 }), (28, { sig := S28, impl := I28 })]
theorem G23_ok : CtxOk Try.prog G23 := ctxOk_cons ok21 rfl c21 (ctxOk_cons ok26 rfl c26 (ctxOk_cons ok28 rfl c28 ctxOk_nil))

end Go.Proofs.Ytiaddnmloonhgaa

/- What the laws read. -/
namespace Go.Proofs.Ytiaddnmloonhgaa
open Go Go.Eng

def I23 : (R : Type) → List DV → (List DV → Option R) → Option R := fun _ ds k => match ds with
  | [] => k [.v (.one (.bool true))]
  | _ => none

def G6 : Ctx := [(16, { sig := S16, impl := I16 }), (20, { sig := S20, impl := I20 }), (23, { sig := S23, impl := I23 }), (24, { sig := S24, impl := I24 }), (26, { sig := S26, impl := I26 }), (28, { sig := S28, impl := I28 }), (18, { sig := S18, impl := I18 }), (30, { sig := S30, impl := I30 })]

/-- the start of a law over a case -/
def caseS (n : Nat) (key nonce op text other : List Int) (at_ by_ : Int) : AS :=
  { n := n, lo := 0, tmps := [(0, .s (.agg [.ints .u8 32 key, .ints .u8 12 nonce, .own 1000001, .own 1000002, .own 1000003, .int .i64 at_, .int .u8 by_]))],
    items := [(1000001, .view .u8 1 op), (1000002, .view .u8 1 text), (1000003, .view .u8 1 other)] }

end Go.Proofs.Ytiaddnmloonhgaa

/- There and back. -/
namespace Go.Proofs.Ytiaddnmloonhgaa
open Go Go.Eng
set_option maxRecDepth 100000

def Bytes (l : List Int) : Prop := ∀ x ∈ l, 0 ≤ x ∧ x < 256

theorem wrapU8 {n : Int} (h0 : 0 ≤ n) (h : n < 256) : IntKind.u8.wrap n = n := by
  unfold IntKind.wrap
  simp only [IntKind.bits, IntKind.signed]
  have e : n % 2 ^ 8 = n := Int.emod_eq_of_lt h0 (by omega)
  simp only [e]
  simp

theorem xor8_eq (x y : Int) : xorI .u8 x y = ((BitVec.ofInt 8 x ^^^ BitVec.ofInt 8 y).toNat : Int) := by
  have h := (BitVec.ofInt 8 x ^^^ BitVec.ofInt 8 y).isLt
  exact wrapU8 (n := ((BitVec.ofInt 8 x ^^^ BitVec.ofInt 8 y).toNat : Int)) (by omega) (by omega)

theorem xor8_byte (x y : Int) : 0 ≤ xorI .u8 x y ∧ xorI .u8 x y < 256 := by
  rw [xor8_eq]
  have h := (BitVec.ofInt 8 x ^^^ BitVec.ofInt 8 y).isLt
  omega

theorem xor8_twice {x : Int} (h0 : 0 ≤ x) (h : x < 256) (y : Int) : xorI .u8 (xorI .u8 x y) y = x := by
  rw [xor8_eq (xorI .u8 x y) y, xor8_eq x y]
  rw [BitVec.ofInt_natCast, BitVec.ofNat_toNat]
  simp only [BitVec.setWidth_eq]
  rw [BitVec.xor_assoc, BitVec.xor_self, BitVec.xor_zero, BitVec.toNat_ofInt]
  omega

theorem stream_bytes (key : List Int) (c : Nat) (nonce b : List Int) : Bytes (streamL key c nonce b) := by
  intro x hx
  unfold streamL maskL at hx
  rw [List.mem_mapIdx] at hx
  obtain ⟨i, hi, rfl⟩ := hx
  exact xor8_byte _ _

theorem stream_twice (key : List Int) (c : Nat) (nonce : List Int) {b : List Int} (hb : Bytes b) : streamL key c nonce (streamL key c nonce b) = b := by
  apply List.ext_getElem?
  intro i
  unfold streamL maskL
  rw [List.getElem?_mapIdx, List.getElem?_mapIdx]
  cases h : b[i]? with
  | none => rfl
  | some x =>
    obtain ⟨h0, h1⟩ := hb x (List.mem_of_getElem? h)
    simp only [Option.map_some]
    rw [xor8_twice h0 h1]

theorem digL_length (key b' w : List Int) : (digL key b' w).length = 16 := by kernel_rfl

theorem macL_length (key b : List Int) : (macL key b).length = 16 := digL_length _ _ _

theorem tagL_length (key nonce a b : List Int) : (tagL key nonce a b).length = 16 := macL_length _ _

theorem sealL_eq (key nonce a b : List Int) : sealL key nonce a b = streamL key 1 nonce b ++ tagL key nonce a (streamL key 1 nonce b) := by
  unfold sealL
  rw [List.take_of_length_le (by rw [tagL_length]; omega)]

theorem sealL_length (key nonce a b : List Int) : (sealL key nonce a b).length = b.length + 16 := by
  rw [sealL_eq, List.length_append, streamL_length, tagL_length]

theorem open_seal (key nonce a : List Int) {b : List Int} (hb : Bytes b) : openL key nonce a (sealL key nonce a b) = (b, 0) := by
  unfold openL
  rw [sealL_length, if_neg (by omega)]
  have e1 : (sealL key nonce a b).take (b.length + 16 - 16) = streamL key 1 nonce b := by
    rw [sealL_eq, Nat.add_sub_cancel, List.take_append_of_le_length (by rw [streamL_length]; omega), List.take_of_length_le (by rw [streamL_length]; omega)]
  have e2 : ((sealL key nonce a b).drop (b.length + 16 - 16)).take 16 = tagL key nonce a (streamL key 1 nonce b) := by
    rw [sealL_eq, Nat.add_sub_cancel, List.drop_append_of_le_length (by rw [streamL_length]; omega), List.drop_of_length_le (by rw [streamL_length]; omega), List.nil_append, List.take_of_length_le (by rw [tagL_length]; omega)]
  rw [e1, e2, if_pos rfl, stream_twice key 1 nonce hb]

theorem seal_open (key nonce a : List Int) {b : List Int} (hb : Bytes b) (h : (openL key nonce a b).2 = 0) : sealL key nonce a (openL key nonce a b).1 = b := by
  unfold openL at h ⊢
  by_cases hl : b.length < 16
  · rw [if_pos hl] at h; cases h
  · rw [if_neg hl] at h ⊢
    by_cases ht : tagL key nonce a (b.take (b.length - 16)) = (b.drop (b.length - 16)).take 16
    · rw [if_pos ht]
      simp only
      rw [sealL_eq, stream_twice key 1 nonce (fun x hx => hb x (List.mem_of_mem_take hx)), ht]
      rw [show (b.drop (b.length - 16)).take 16 = b.drop (b.length - 16) from List.take_of_length_le (by rw [List.length_drop]; omega), List.take_append_drop]
    · rw [if_neg ht] at h; cases h

theorem open_cases (key nonce a b : List Int) : (openL key nonce a b).2 = 0 ∨ ((openL key nonce a b).1 = [] ∧ (((openL key nonce a b).2 = 3 ∧ b.length < 16) ∨ ((openL key nonce a b).2 = 121 ∧ ¬ b.length < 16))) := by
  unfold openL
  by_cases hl : b.length < 16
  · rw [if_pos hl]; exact .inr ⟨rfl, .inl ⟨rfl, hl⟩⟩
  · rw [if_neg hl]
    by_cases ht : tagL key nonce a (b.take (b.length - 16)) = (b.drop (b.length - 16)).take 16
    · rw [if_pos ht]; exact .inl rfl
    · rw [if_neg ht]; exact .inr ⟨rfl, .inr ⟨rfl, hl⟩⟩

theorem open_length (key nonce a b : List Int) : (openL key nonce a b).1.length ≤ b.length := by
  unfold openL
  by_cases hl : b.length < 16
  · rw [if_pos hl]; simp
  · rw [if_neg hl]
    by_cases ht : tagL key nonce a (b.take (b.length - 16)) = (b.drop (b.length - 16)).take 16
    · rw [if_pos ht]; simp only; rw [streamL_length, List.length_take]; omega
    · rw [if_neg ht]; simp

end Go.Proofs.Ytiaddnmloonhgaa

/- A case of sealing, opened. -/
namespace Go.Proofs.Ytiaddnmloonhgaa
open Go Go.Eng Go.ChangeShapes Go.WideShapes Go.RowKit
set_option maxRecDepth 100000

theorem own0 : ownKnob Try.prog.godebug = none := by kernel_rfl
theorem laidOut : laidOutB Try.prog = true := by kernel_rfl

theorem bulk_one {H : Type} (d : DataW H) : 1 ≤ Rows.uptoBulk d := by
  cases d with
  | lit l => cases l <;> simp [Rows.uptoBulk]
  | nil => simp [Rows.uptoBulk]
  | ptr d => simp [Rows.uptoBulk]
  | slice elems spare => simp [Rows.uptoBulk]
  | agg parts => simp [Rows.uptoBulk]
  | iface t d => simp [Rows.uptoBulk]
  | map entries => simp [Rows.uptoBulk]
  | held h => simp [Rows.uptoBulk]

theorem bulk_length {H : Type} (l : List (DataW H)) : l.length ≤ Rows.uptoBulkAll l := by
  induction l with
  | nil => simp [Rows.uptoBulkAll]
  | cons x r ih => have := bulk_one x; simp only [Rows.uptoBulkAll, List.length_cons]; omega

theorem bulk_slice {H : Type} {d : DataW H} {len : Nat} (h : (d = .nil ∧ len = 0) ∨ ∃ elems spare, d = .slice elems spare ∧ elems.length = len) : len ≤ Rows.uptoBulk d := by
  rcases h with ⟨rfl, rfl⟩ | ⟨elems, spare, rfl, rfl⟩
  · exact Nat.zero_le _
  · have := bulk_length elems
    simp only [Rows.uptoBulk]; omega

theorem bulk_bound {H : Type} {l : List (DataW H)} (hk : Rows.uptoSmall H l = true) : Rows.uptoBulkAll l ≤ 1048576 := of_decide_eq_true hk

theorem wf_u8 {y : Int} (h : (Lit.int .u8 y).wf = true) : 0 ≤ y ∧ y < 256 := by
  have := bounds_u8 h; omega

section
variable {H : Type} {enc : TypeId × Value → H}

theorem elB (H : Type) (enc : TypeId × Value → H) : IntEl H enc Try.prog 5 .u8 1 := intEl_int Try.underlying5 (by kernel_rfl)

theorem case_open {W : World} {base b0 : Nat} {sp : Nat → Bool} {hd : Bool} {r : Reach} {v : Value} {d : DataW H} {ps : List MemPlace} (hval : Value.okWide Try.prog W r b0 66 v) (h : DataW.Trod enc Try.prog W base sp hd 66 v d ps) (hk : Rows.uptoBulk d ≤ 1048576) :
    ∃ (key nonce op text other : List Int) (at_ by_ : Int) (ρ : Rho), ∀ n, key.length = 32 ∧ nonce.length = 12 ∧ op.length ≤ 1048576 ∧ text.length ≤ 1048576 ∧ other.length ≤ 1048576 ∧ Bytes key ∧ Bytes nonce ∧ Bytes op ∧ Bytes text ∧ Bytes other ∧
      (-9223372036854775808 ≤ at_ ∧ at_ ≤ 9223372036854775807) ∧ (0 ≤ by_ ∧ by_ < 256) ∧
      (1 ≤ n → Sim W ⟨fun _ => False, ρ.loc⟩ ρ (caseS n key nonce op text other at_ by_) { tmps := #[v] ++ Array.replicate (n - 1) undef, defers := [] } W) := by
  obtain ⟨cs, rfl, hcs⟩ := okWide_struct Try.underlying66 hval
  have hcs' : cs.size = 49 := by rw [hcs]; kernel_rfl
  obtain ⟨fuel, h⟩ := h
  obtain ⟨xs, m, rfl, hx, hl, hlen, hf⟩ := DataW.trod_struct Try.underlying66 h
  match xs, hlen with
  | [y0, y1, y2, y3, y4, y5, y6], _ =>
  have g0 : DataW.trod enc Try.prog W base sp hd m 23 ((cs.toList.drop 0).take (Try.prog.cellsOf 23)) = some y0 := hf 0 _ rfl
  have g1 : DataW.trod enc Try.prog W base sp hd m 26 ((cs.toList.drop 32).take (Try.prog.cellsOf 26)) = some y1 := hf 1 _ rfl
  have g2 : DataW.trod enc Try.prog W base sp hd m 27 ((cs.toList.drop 44).take (Try.prog.cellsOf 27)) = some y2 := hf 2 _ rfl
  have g3 : DataW.trod enc Try.prog W base sp hd m 27 ((cs.toList.drop 45).take (Try.prog.cellsOf 27)) = some y3 := hf 3 _ rfl
  have g4 : DataW.trod enc Try.prog W base sp hd m 27 ((cs.toList.drop 46).take (Try.prog.cellsOf 27)) = some y4 := hf 4 _ rfl
  have g5 : DataW.trod enc Try.prog W base sp hd m 3 ((cs.toList.drop 47).take (Try.prog.cellsOf 3)) = some y5 := hf 5 _ rfl
  have g6 : DataW.trod enc Try.prog W base sp hd m 5 ((cs.toList.drop 48).take (Try.prog.cellsOf 5)) = some y6 := hf 6 _ rfl
  rw [show Try.prog.cellsOf 23 = 32 by kernel_rfl] at g0
  rw [show Try.prog.cellsOf 26 = 12 by kernel_rfl] at g1
  rw [show Try.prog.cellsOf 27 = 1 by kernel_rfl] at g2 g3 g4
  rw [show Try.prog.cellsOf 3 = 1 by kernel_rfl] at g5
  rw [show Try.prog.cellsOf 5 = 1 by kernel_rfl] at g6
  obtain ⟨key, k1, k2, k3⟩ := (intEl_array (H := H) (enc := enc) Try.underlying23 (es := 1) (by kernel_rfl) (by omega) (elB H enc)).2 _ _ _ _ _ _ _ g0
  obtain ⟨nonce, n1, n2, n3⟩ := (intEl_array (H := H) (enc := enc) Try.underlying26 (es := 1) (by kernel_rfl) (by omega) (elB H enc)).2 _ _ _ _ _ _ _ g1
  obtain ⟨op, ol, oc, oA, oloc, o1, o2, o3, o4, o5, o6, o7, o8⟩ := open_view Try.underlying27 (by omega) (elB H enc) g2
  obtain ⟨tx, tl, tc, tA, tloc, t1, t2, t3, t4, t5, t6, t7, t8⟩ := open_view Try.underlying27 (by omega) (elB H enc) g3
  obtain ⟨oth, el, ec, eA, eloc, e1, e2, e3, e4, e5, e6, e7, e8⟩ := open_view Try.underlying27 (by omega) (elB H enc) g4
  obtain ⟨at_, a1, _, a2⟩ := DataW.trod_int Try.underlying3 g5
  obtain ⟨by_, b1, _, b2⟩ := DataW.trod_int Try.underlying5 g6
  have hd : d = .agg [y0.1, y1.1, y2.1, y3.1, y4.1, y5.1, y6.1] := by injection hx
  rw [hd] at hk
  simp only [Rows.uptoBulk, Rows.uptoBulkAll] at hk
  have q2 := bulk_slice o8
  have q3 := bulk_slice t8
  have q4 := bulk_slice e8
  have hby : ∀ {l : List Int}, (∀ y ∈ l, (Lit.int .u8 y).wf = true) → Bytes l := fun h x hx => wf_u8 (h x hx)
  refine ⟨key, nonce, op, tx, oth, at_, by_, ⟨locOf [(1000001, oloc), (1000002, tloc), (1000003, eloc)], fun _ => 0⟩, fun n => ⟨by simpa using k2, by simpa using n2, by omega, by omega, by omega, hby k3, hby n3, hby o7, hby t7, hby e7, bounds_i64 a2, wf_u8 b2, fun hn => ?_⟩⟩
  refine sim_start (avs := [.s (.agg [.ints .u8 32 key, .ints .u8 12 nonce, .own 1000001, .own 1000002, .own 1000003, .int .i64 at_, .int .u8 by_])]) rfl hn rfl ?_ ?_ ?_ ⟨?_, trivial⟩
  · simp [caseS, Nodup', putNames]
  · intro j it hi
    simp only [caseS, AS.I, findI_cons] at hi
    split at hi
    · rename_i hj; subst hj; injection hi with hi; subst hi
      exact ⟨_, _, _, rfl, by omega, ⟨ol, o3⟩, o4⟩
    · split at hi
      · rename_i hj; subst hj; injection hi with hi; subst hi
        exact ⟨_, _, _, rfl, by omega, ⟨tl, t3⟩, t4⟩
      · split at hi
        · rename_i hj; subst hj; injection hi with hi; subst hi
          exact ⟨_, _, _, rfl, by omega, ⟨el, e3⟩, e4⟩
        · simp [findI] at hi
  · intro j p hp
    simp only [locOf] at hp
    split at hp
    · exact o6 p hp
    · split at hp
      · exact t6 p hp
      · split at hp
        · exact e6 p hp
        · cases hp
  · refine ⟨cs.toList, by simp, ?_⟩
    have := relL_of (ρ := ⟨locOf [(1000001, oloc), (1000002, tloc), (1000003, eloc)], fun _ => 0⟩) (S := (caseS n key nonce op tx oth at_ by_).S) (off := 0) (cs := cs.toList)
      (l := [(.ints .u8 32 key, 32), (.ints .u8 12 nonce, 12), (.own 1000001, 1), (.own 1000002, 1), (.own 1000003, 1), (.int .i64 at_, 1), (.int .u8 by_, 1)])
      ⟨by simp [hcs'], ⟨k1, by simpa using k2⟩, by simp [hcs'], ⟨n1, by simpa using n2⟩, by simp [hcs'], rel_own rfl o1 o2 o3 o5 (by omega), by simp [hcs'], rel_own rfl t1 t2 t3 t5 (by omega), by simp [hcs'], rel_own rfl e1 e2 e3 e5 (by omega), by simp [hcs'], a1, by simp [hcs'], b1, (show cs.toList.length = 49 by simpa using hcs')⟩
    exact this
end
end Go.Proofs.Ytiaddnmloonhgaa

/- Blocks and streams: lengths, bytes, how streams go on. -/
namespace Go.Proofs.Ytiaddnmloonhgaa
open Go Go.Eng
set_option maxRecDepth 100000

theorem wrapU8_byte (n : Int) : 0 ≤ IntKind.u8.wrap n ∧ IntKind.u8.wrap n < 256 := by
  unfold IntKind.wrap
  simp only [IntKind.bits, IntKind.signed]
  have h1 := Int.emod_nonneg n (show (2 : Int) ^ 8 ≠ 0 by decide)
  have h2 := Int.emod_lt_of_pos n (show (0 : Int) < 2 ^ 8 by decide)
  simp only [Bool.false_and, Bool.false_eq_true, if_false]
  omega

theorem wrapU32_range (n : Int) : 0 ≤ IntKind.u32.wrap n ∧ IntKind.u32.wrap n < 4294967296 := by
  unfold IntKind.wrap
  simp only [IntKind.bits, IntKind.signed]
  have h1 := Int.emod_nonneg n (show (2 : Int) ^ 32 ≠ 0 by decide)
  have h2 := Int.emod_lt_of_pos n (show (0 : Int) < 2 ^ 32 by decide)
  simp only [Bool.false_and, Bool.false_eq_true, if_false]
  omega

def outF (t s : List Int) : List Int := ((List.range 16).map fun i => bytesL (IntKind.u64.wrap (IntKind.u32.wrap (t.getD i 0 + s.getD i 0))) 4).flatten

theorem outL_eq (t s : List Int) : outL t s = outF t s := by kernel_rfl

theorem bytesGo_bytes (n : Int) : ∀ (m i : Nat), Bytes (bytesGo n m i)
  | 0, _ => by intro x hx; cases hx
  | m + 1, i => by
    intro x hx
    rcases List.mem_cons.1 hx with e | hx
    · subst e; exact wrapU8_byte _
    · exact bytesGo_bytes n m (i + 1) x hx

theorem blockL_length (key : List Int) (c : Int) (nonce : List Int) : (blockL key c nonce).length = 64 := by
  unfold blockL; rw [outL_eq]; kernel_rfl

theorem block_bytes (key : List Int) (c : Int) (nonce : List Int) : Bytes (blockL key c nonce) := by
  unfold blockL; rw [outL_eq]
  intro x hx
  simp only [outF, List.mem_flatten, List.mem_map] at hx
  obtain ⟨l, ⟨i, _, rfl⟩, hx⟩ := hx
  exact bytesGo_bytes _ _ _ x hx

theorem bytes_getD {l : List Int} (h : Bytes l) (i : Nat) : 0 ≤ l.getD i 0 ∧ l.getD i 0 < 256 := by
  rw [List.getD_eq_getElem?_getD]
  cases hx : l[i]? with
  | none => simp
  | some x => exact h x (List.mem_of_getElem? hx)

theorem maskAt_byte (key : List Int) (c : Nat) (nonce : List Int) (i : Nat) : 0 ≤ maskAt key c nonce i ∧ maskAt key c nonce i < 256 := bytes_getD (block_bytes _ _ _) _

theorem maskL_append (f : Nat → Int) (a b : List Int) : maskL f (a ++ b) = maskL f a ++ maskL (fun i => f (a.length + i)) b := by
  unfold maskL
  rw [List.mapIdx_append]
  congr 1
  apply List.ext_getElem?
  intro i
  simp [Nat.add_comm]

theorem maskAt_add (key : List Int) (c q : Nat) (nonce : List Int) (i : Nat) : maskAt key c nonce (64 * q + i) = maskAt key (c + q) nonce i := by
  unfold maskAt
  rw [show c + (64 * q + i) / 64 = c + q + i / 64 by omega, show (64 * q + i) % 64 = i % 64 by omega]

theorem stream_append (key : List Int) (c q : Nat) (nonce a b : List Int) (h : a.length = 64 * q) : streamL key c nonce (a ++ b) = streamL key c nonce a ++ streamL key (c + q) nonce b := by
  unfold streamL
  have e : (fun i => maskAt key c nonce (a.length + i)) = maskAt key (c + q) nonce := funext fun i => by rw [h, maskAt_add]
  rw [maskL_append, e]

theorem xor8_zero {y : Int} (h0 : 0 ≤ y) (h : y < 256) : xorI .u8 0 y = y := by
  rw [xor8_eq]
  rw [show BitVec.ofInt 8 0 = 0#8 from rfl, BitVec.zero_xor, BitVec.toNat_ofInt]
  omega

theorem mask_of {f : Nat → Int} {l : List Int} (hl : l.length = 64) (hb : Bytes l) (h : ∀ i, i < 64 → f i = l.getD i 0) : maskL f (List.replicate 64 0) = l := by
  apply List.ext_getElem?
  intro i
  unfold maskL
  rw [List.getElem?_mapIdx, List.getElem?_replicate]
  by_cases hi : i < 64
  · rw [if_pos hi, List.getElem?_eq_getElem (by omega)]
    simp only [Option.map_some]
    obtain ⟨m1, m2⟩ := bytes_getD hb i
    rw [h i hi, xor8_zero m1 m2, List.getD_eq_getElem?_getD, List.getElem?_eq_getElem (by omega), Option.getD_some]
  · rw [if_neg hi, List.getElem?_eq_none (by omega), Option.map_none]

theorem stream_zeros (key : List Int) (c : Nat) (nonce : List Int) : streamL key c nonce (List.replicate 64 0) = blockL key c nonce := by
  unfold streamL
  refine mask_of (blockL_length _ _ _) (block_bytes _ _ _) fun i hi => ?_
  unfold maskAt
  rw [show c + i / 64 = c by omega, show i % 64 = i by omega]

/-- a mask lets by no more than itself -/
theorem andI_le {k : IntKind} {m : Nat} (hm : (m : Int) < 2 ^ (k.bits - 1)) (x : Int) : ∃ n : Nat, andI k x m = (n : Int) ∧ n ≤ m := by
  refine ⟨(BitVec.ofInt k.bits x &&& BitVec.ofInt k.bits (m : Int)).toNat, ?_, ?_⟩
  · have h1 : (BitVec.ofInt k.bits x &&& BitVec.ofInt k.bits (m : Int)).toNat ≤ (BitVec.ofInt k.bits (m : Int)).toNat := by rw [BitVec.toNat_and]; exact Nat.and_le_right
    have h2 : (BitVec.ofInt k.bits (m : Int)).toNat ≤ m := by
      rw [BitVec.ofInt_natCast, BitVec.toNat_ofNat]; exact Nat.mod_le _ _
    unfold andI
    generalize (BitVec.ofInt k.bits x &&& BitVec.ofInt k.bits (m : Int)).toNat = z at h1 ⊢
    have hz : (z : Int) < 2 ^ (k.bits - 1) := by omega
    cases k <;> simp [IntKind.wrap, IntKind.bits, IntKind.signed] at hz ⊢ <;> omega
  · rw [BitVec.toNat_and]
    refine Nat.le_trans Nat.and_le_right ?_
    rw [BitVec.ofInt_natCast, BitVec.toNat_ofNat]; exact Nat.mod_le _ _
end Go.Proofs.Ytiaddnmloonhgaa

/- What rime/rimelaw12.added comes to. MADE BY PROGRAM (wip/tools/mkfn.py, EngGen.lean). -/
namespace Go.Proofs.Ytiaddnmloonhgaa
open Go Go.Eng
set_option maxRecDepth 100000
set_option linter.unusedVariables false

def f32_0_sh : Shp := { n := 30, lo := 2, slots := [(1, .one (.fix (At.own 1))), (2, .one (.fix (At.ptr 2 0 Off.z 16))), (4, .one (.fix (At.ptr 4 0 Off.z 16))), (5, .one (.int IntKind.i64)), (6, .one (.int IntKind.i64))], items := [(1, .view IntKind.u8 1), (2, .obj [.ints IntKind.u8 16]), (4, .obj [.ints IntKind.u8 16])] }
def f32_0_ex1 : Shp := { n := 30, lo := 2, slots := [(8, .one (.bool)), (1, .one (.fix (At.own 1))), (2, .one (.fix (At.ptr 2 0 Off.z 16))), (4, .one (.fix (At.ptr 4 0 Off.z 16))), (5, .one (.int IntKind.i64)), (6, .one (.int IntKind.i64))], items := [(1, .view IntKind.u8 1), (2, .obj [.ints IntKind.u8 16]), (4, .obj [.ints IntKind.u8 16])] }
def f32_0_st {R : Type} (N : Nat) (self : Int → Int → List Int → List Int → List Int → Option R) (k1 : Bool → Int → Int → List Int → List Int → List Int → Option R) (x1 : Int) (x2 : Int) (x3 : List Int) (x4 : List Int) (x5 : List Int) : Option R :=
 bif Decidable.decide (x2 < 16) then
 bif Decidable.decide (0 ≤ x2) && Decidable.decide (x2 < 16) then
 bif Decidable.decide (0 ≤ x2) && Decidable.decide (x2 < nI (rowLen 1 x3)) then
 bif Decidable.decide (0 ≤ x2) && Decidable.decide (x2 < 16) then
 let v0 : Int := IntKind.i64.wrap (x4.getD (mulE x2.toNat 1) 0);
 let v1 : Int := IntKind.i64.wrap (x1 + v0);
 let v2 : Int := IntKind.i64.wrap (x3.getD (mulE x2.toNat 1) 0);
 let v3 : Int := IntKind.i64.wrap (v1 + v2);
 let v4 : Int := shrI IntKind.i64 v3 8;
 let v5 : Int := IntKind.i64.wrap (x2 + 1);
 let v6 : Int := IntKind.u8.wrap v3;
 let v7 : List Int := x4.set (mulE x2.toNat 1) v6;
 self v4 v5 x3 v7 x5
 else Option.none
 else Option.none
 else Option.none
else k1 (Decidable.decide (x2 < 16)) x1 x2 x3 x4 x5
def f32_0_lp {R : Type} (N : Nat) (k1 : Bool → Int → Int → List Int → List Int → List Int → Option R) : Nat → Int → Int → List Int → List Int → List Int → Option R
 | 0, _, _, _, _, _ => none
 | n + 1, x1, x2, x3, x4, x5 => f32_0_st N (f32_0_lp N k1 n) k1 x1 x2 x3 x4 x5
def f32_0_F (N : Nat) : (R : Type) → List Leaf → (X → AS → Option R) → Option R := fun _ ls K => match ls with
 | [.i x1, .i x2, .l x3, .l x4, .l x5] => f32_0_lp N (fun y1 y2 y3 y4 y5 y6 => K (X.normal) (fill f32_0_ex1 [.b y1, .i y2, .i y3, .l y4, .l y5, .l y6])) N x1 x2 x3 x4 x5
 | _ => none
def f32_raw {R : Type} (N : Nat) (t : List Int) (s : List Int) (k : List DV → Option R) : Option R :=
 f32_0_lp N (fun w0_1 w0_2 w0_3 w0_4 w0_5 w0_6 => k [DV.v (SV.one (At.ints IntKind.u8 16 w0_5))]) N 0 0 s t (List.replicate 16 0)


noncomputable def E32 (N : Nat) : Env := { Θ := Th, Γ := [], K := K32, ν := N32, fuel := 0, lp := [(0, mkL N32_0 f32_0_sh (f32_0_F N))] }

theorem f32_0_st_eq {R : Type} (N : Nat) (K : X → AS → Option R) (n : Nat) (x1 : Int) (x2 : Int) (x3 : List Int) (x4 : List Int) (x5 : List Int) : roundsOf (E32 N) N32_0 0 B32_0 K (n + 1) (fill f32_0_sh [.i x1, .i x2, .l x3, .l x4, .l x5]) = f32_0_st N (fun x1 x2 x3 x4 x5 => roundsOf (E32 N) N32_0 0 B32_0 K n (fill f32_0_sh [.i x1, .i x2, .l x3, .l x4, .l x5])) (fun y1 y2 y3 y4 y5 y6 => K (X.normal) (fill f32_0_ex1 [.b y1, .i y2, .i y3, .l y4, .l y5, .l y6])) x1 x2 x3 x4 x5 := by kernel_rfl
theorem f32_0_lp_eq {R : Type} (N : Nat) (K : X → AS → Option R) : ∀ (n : Nat) (x1 : Int) (x2 : Int) (x3 : List Int) (x4 : List Int) (x5 : List Int), roundsOf (E32 N) N32_0 0 B32_0 K n (fill f32_0_sh [.i x1, .i x2, .l x3, .l x4, .l x5]) = f32_0_lp N (fun y1 y2 y3 y4 y5 y6 => K (X.normal) (fill f32_0_ex1 [.b y1, .i y2, .i y3, .l y4, .l y5, .l y6])) n x1 x2 x3 x4 x5
  | 0, _, _, _, _, _ => rfl
  | n + 1, x1, x2, x3, x4, x5 => by
    rw [f32_0_st_eq, f32_0_lp, show (fun x1 x2 x3 x4 x5 => roundsOf (E32 N) N32_0 0 B32_0 K n (fill f32_0_sh [.i x1, .i x2, .l x3, .l x4, .l x5])) = f32_0_lp N (fun y1 y2 y3 y4 y5 y6 => K (X.normal) (fill f32_0_ex1 [.b y1, .i y2, .i y3, .l y4, .l y5, .l y6])) n from by funext x1 x2 x3 x4 x5; exact f32_0_lp_eq N K n x1 x2 x3 x4 x5]
theorem f32_0_ok (N : Nat) (hlp : LoopsOk Try.prog (E32 N).lp B32_0) (hΓ : CtxOk Try.prog (E32 N).Γ) : LoopOk Try.prog (mkL N32_0 f32_0_sh (f32_0_F N)) 0 B32_0 := by
  refine loopOk_of (E := E32 N) thOk hΓ mixed hlp ?_
  intro R ls K r h
  unfold f32_0_F at h
  split at h
  · exact ⟨N, by rw [f32_0_lp_eq]; exact h⟩
  · cases h

theorem lok32_0 (N : Nat) (hΓ : CtxOk Try.prog []) : LoopOk Try.prog (mkL N32_0 f32_0_sh (f32_0_F N)) 0 B32_0 := f32_0_ok N (loopsOk_of (l := []) (by kernel_rfl) trivial) hΓ
theorem f32_contract (N : Nat) (hΓ : CtxOk Try.prog []) : Contract Try.prog 32 { sig := S32, impl := fun _ ds k => call (E32 N) S32 30 B32 R32 ds k } :=
  call_contract (E := E32 N) thOk hΓ mixed ok32.look ok32.body ok32.n ok32.rv rfl (by decide) (loopsOk_of (l := [(0, B32_0)]) (by kernel_rfl) (allOk_cons (L := mkL N32_0 f32_0_sh (f32_0_F N)) rfl (lok32_0 N hΓ) trivial))
theorem f32_raw_eq {R : Type} (N : Nat) (t : List Int) (s : List Int) (k : List DV → Option R) : call (E32 N) S32 30 B32 R32 [.v (.one (.ints .u8 16 t)), .lst .u8 1 s] k = f32_raw N t s k := by kernel_rfl
end Go.Proofs.Ytiaddnmloonhgaa

/- What rime/rimelaw12.eight comes to. MADE BY PROGRAM (wip/tools/mkfn.py, EngGen.lean). -/
namespace Go.Proofs.Ytiaddnmloonhgaa
open Go Go.Eng
set_option maxRecDepth 100000
set_option linter.unusedVariables false

def f31_0_sh : Shp := { n := 19, lo := 1, slots := [(0, .one (.int IntKind.i64)), (3, .one (.fix (At.own 1000003))), (4, .one (.int IntKind.i64))], items := [(1000003, .row IntKind.u8 1)] }
def f31_0_ex1 : Shp := { n := 19, lo := 1, slots := [(6, .one (.bool)), (0, .one (.int IntKind.i64)), (3, .one (.fix (At.own 1000003))), (4, .one (.int IntKind.i64))], items := [(1000003, .row IntKind.u8 1)] }
def f31_0_st {R : Type} (N : Nat) (self : Int → Int → List Int → Option R) (k1 : Bool → Int → Int → List Int → Option R) (x1 : Int) (x2 : Int) (x3 : List Int) : Option R :=
 bif Decidable.decide (x2 < 8) then
 let v0 : Int := IntKind.i64.wrap (8 * x2);
 let v1 : Int := IntKind.u64.wrap v0;
 bif Decidable.decide (0 ≤ v1) then
 let v2 : Int := shrI IntKind.i64 x1 v1;
 let v3 : Int := IntKind.u8.wrap v2;
 let v4 : List Int := (zerosOf (1 * 1)).set 0 v3;
 bif ((2 * (rowLen 1 x3 + rowLen 1 v4) + 192) * 1).ble big48 && (rowLen 1 x3 + rowLen 1 v4).ble big48 then
 let v5 : Int := IntKind.i64.wrap (x2 + 1);
 let v6 : List Int := x3 ++ v4;
 self x1 v5 v6
 else Option.none
 else Option.none
else k1 (Decidable.decide (x2 < 8)) x1 x2 x3
def f31_0_lp {R : Type} (N : Nat) (k1 : Bool → Int → Int → List Int → Option R) : Nat → Int → Int → List Int → Option R
 | 0, _, _, _ => none
 | n + 1, x1, x2, x3 => f31_0_st N (f31_0_lp N k1 n) k1 x1 x2 x3
def f31_0_F (N : Nat) : (R : Type) → List Leaf → (X → AS → Option R) → Option R := fun _ ls K => match ls with
 | [.i x1, .i x2, .l x3] => f31_0_lp N (fun y1 y2 y3 y4 => K (X.normal) (fill f31_0_ex1 [.b y1, .i y2, .i y3, .l y4])) N x1 x2 x3
 | _ => none
def f31_raw {R : Type} (N : Nat) (n : Int) (k : List DV → Option R) : Option R :=
 f31_0_lp N (fun w0_1 w0_2 w0_3 w0_4 => k [DV.lst IntKind.u8 1 w0_4]) N n 0 []


noncomputable def E31 (N : Nat) : Env := { Θ := Th, Γ := [], K := K31, ν := N31, fuel := 0, lp := [(0, mkL N31_0 f31_0_sh (f31_0_F N))] }

theorem f31_0_st_eq {R : Type} (N : Nat) (K : X → AS → Option R) (n : Nat) (x1 : Int) (x2 : Int) (x3 : List Int) : roundsOf (E31 N) N31_0 0 B31_0 K (n + 1) (fill f31_0_sh [.i x1, .i x2, .l x3]) = f31_0_st N (fun x1 x2 x3 => roundsOf (E31 N) N31_0 0 B31_0 K n (fill f31_0_sh [.i x1, .i x2, .l x3])) (fun y1 y2 y3 y4 => K (X.normal) (fill f31_0_ex1 [.b y1, .i y2, .i y3, .l y4])) x1 x2 x3 := by kernel_rfl
theorem f31_0_lp_eq {R : Type} (N : Nat) (K : X → AS → Option R) : ∀ (n : Nat) (x1 : Int) (x2 : Int) (x3 : List Int), roundsOf (E31 N) N31_0 0 B31_0 K n (fill f31_0_sh [.i x1, .i x2, .l x3]) = f31_0_lp N (fun y1 y2 y3 y4 => K (X.normal) (fill f31_0_ex1 [.b y1, .i y2, .i y3, .l y4])) n x1 x2 x3
  | 0, _, _, _ => rfl
  | n + 1, x1, x2, x3 => by
    rw [f31_0_st_eq, f31_0_lp, show (fun x1 x2 x3 => roundsOf (E31 N) N31_0 0 B31_0 K n (fill f31_0_sh [.i x1, .i x2, .l x3])) = f31_0_lp N (fun y1 y2 y3 y4 => K (X.normal) (fill f31_0_ex1 [.b y1, .i y2, .i y3, .l y4])) n from by funext x1 x2 x3; exact f31_0_lp_eq N K n x1 x2 x3]
theorem f31_0_ok (N : Nat) (hlp : LoopsOk Try.prog (E31 N).lp B31_0) (hΓ : CtxOk Try.prog (E31 N).Γ) : LoopOk Try.prog (mkL N31_0 f31_0_sh (f31_0_F N)) 0 B31_0 := by
  refine loopOk_of (E := E31 N) thOk hΓ mixed hlp ?_
  intro R ls K r h
  unfold f31_0_F at h
  split at h
  · exact ⟨N, by rw [f31_0_lp_eq]; exact h⟩
  · cases h

theorem lok31_0 (N : Nat) (hΓ : CtxOk Try.prog []) : LoopOk Try.prog (mkL N31_0 f31_0_sh (f31_0_F N)) 0 B31_0 := f31_0_ok N (loopsOk_of (l := []) (by kernel_rfl) trivial) hΓ
theorem f31_contract (N : Nat) (hΓ : CtxOk Try.prog []) : Contract Try.prog 31 { sig := S31, impl := fun _ ds k => call (E31 N) S31 19 B31 R31 ds k } :=
  call_contract (E := E31 N) thOk hΓ mixed ok31.look ok31.body ok31.n ok31.rv rfl (by decide) (loopsOk_of (l := [(0, B31_0)]) (by kernel_rfl) (allOk_cons (L := mkL N31_0 f31_0_sh (f31_0_F N)) rfl (lok31_0 N hΓ) trivial))
theorem f31_raw_eq {R : Type} (N : Nat) (n : Int) (k : List DV → Option R) : call (E31 N) S31 19 B31 R31 [.v (.one (.int .i64 n))] k = f31_raw N n k := by kernel_rfl
end Go.Proofs.Ytiaddnmloonhgaa

/- What rime/rimelaw12.works comes to. MADE BY PROGRAM (wip/tools/mkfn.py, EngGen.lean). -/
namespace Go.Proofs.Ytiaddnmloonhgaa
open Go Go.Eng
set_option maxRecDepth 100000
set_option linter.unusedVariables false

def f23_raw {R : Type} (N : Nat)  (k : List DV → Option R) : Option R :=
 let v0 : List Int := (Go.Eng.zerosOf (1 * 1)).set 0 97;
let v1 : List Int := (Go.Eng.zerosOf (4 * 1)).set 0 116;
let v2 : List Int := v1.set 1 101;
let v3 : List Int := v2.set 2 120;
let v4 : List Int := v3.set 3 116;
let v5 : Bool := bif Go.Eng.nI (Go.Eng.rowLen 1 (Go.Proofs.Ytiaddnmloonhgaa.sealL (List.replicate 32 0) (List.replicate 12 0) v0 v4)) == 20 then (Go.Proofs.Ytiaddnmloonhgaa.openL (List.replicate 32 0) (List.replicate 12 0) v0 (Go.Proofs.Ytiaddnmloonhgaa.sealL (List.replicate 32 0) (List.replicate 12 0) v0 v4)).snd == 0 else Bool.false;
let v6 : Bool := bif v5 then (Go.Eng.mkBytes (Go.Proofs.Ytiaddnmloonhgaa.openL (List.replicate 32 0) (List.replicate 12 0) v0 (Go.Proofs.Ytiaddnmloonhgaa.sealL (List.replicate 32 0) (List.replicate 12 0) v0 v4)).fst).toList == (ByteArray.mk #[116, 101, 120, 116]).toList else Bool.false;
let v7 : List Int := (Go.Eng.zerosOf (1 * 1)).set 0 98;
let v8 : Bool := bif v6 then (Go.Proofs.Ytiaddnmloonhgaa.openL (List.replicate 32 0) (List.replicate 12 0) v7 (Go.Proofs.Ytiaddnmloonhgaa.sealL (List.replicate 32 0) (List.replicate 12 0) v0 v4)).snd == 121 else Bool.false;
k [Go.Eng.DV.v (Go.Eng.SV.one (Go.Eng.At.bool v8))]


noncomputable def E23 (N : Nat) : Env := { Θ := Th, Γ := G23, K := K23, ν := N23, fuel := 0, lp := [] }


theorem f23_contract (N : Nat) (hΓ : CtxOk Try.prog G23) : Contract Try.prog 23 { sig := S23, impl := fun _ ds k => call (E23 N) S23 51 B23 R23 ds k } :=
  call_contract (E := E23 N) thOk hΓ mixed ok23.look ok23.body ok23.n ok23.rv rfl (by decide) (loopsOk_of (l := []) (by kernel_rfl) trivial)
theorem f23_raw_eq {R : Type} (N : Nat)  (k : List DV → Option R) : call (E23 N) S23 51 B23 R23 [] k = f23_raw N  k := by kernel_rfl
end Go.Proofs.Ytiaddnmloonhgaa

/- A text sealed is opened; with a bit turned it is not. -/
namespace Go.Proofs.Ytiaddnmloonhgaa
open Go Go.Eng
set_option maxRecDepth 100000

def z32 : List Int := List.replicate 32 0
def z12 : List Int := List.replicate 12 0
def textB : List Int := [116, 101, 120, 116]

theorem tag_unlike : (tagL z32 z12 [98] (streamL z32 1 z12 textB) == tagL z32 z12 [97] (streamL z32 1 z12 textB)) = false := by decide +kernel

theorem textB_bytes : Bytes textB := by
  intro x hx
  simp only [textB, List.mem_cons, List.not_mem_nil, or_false] at hx
  omega

theorem open_other : openL z32 z12 [98] (sealL z32 z12 [97] textB) = ([], 121) := by
  have hl : (streamL z32 1 z12 textB).length = 4 := streamL_length _ _ _ _
  unfold openL
  rw [sealL_length]
  rw [if_neg (show ¬ textB.length + 16 < 16 by decide)]
  rw [sealL_eq]
  rw [show textB.length + 16 - 16 = 4 from rfl, List.take_left' hl, List.drop_left' hl, List.take_of_length_le (by rw [tagL_length]; omega), if_neg]
  intro h
  have := tag_unlike
  rw [h] at this
  simp at this

theorem works_true {R : Type} (k : List DV → Option R) : f23_raw 0 k = k [.v (.one (.bool true))] := by
  have e1 := open_seal z32 z12 [97] textB_bytes
  have e2 := open_other
  have e3 := sealL_length z32 z12 [97] textB
  unfold f23_raw
  simp only []
  rw [show (zerosOf (1 * 1)).set 0 97 = [97] from rfl, show (zerosOf (1 * 1)).set 0 98 = [98] from rfl, show ((((zerosOf (4 * 1)).set 0 116).set 1 101).set 2 120).set 3 116 = textB from rfl]
  rw [show (List.replicate 32 0 : List Int) = z32 from rfl, show (List.replicate 12 0 : List Int) = z12 from rfl]
  rw [e1, e2, rowLen_one, e3]
  rw [show mkBytes (textB, (0 : Int)).fst = ByteArray.mk #[116, 101, 120, 116] from rfl]
  rw [show ((ByteArray.mk #[116, 101, 120, 116]).toList == (ByteArray.mk #[116, 101, 120, 116]).toList) = true from beq_self_eq_true _]
  rfl

theorem c23 : Contract Try.prog 23 { sig := S23, impl := I23 } := by
  refine Contract.refine fun R ds k r h => ⟨_, f23_contract 0 G23_ok, ?_⟩
  unfold I23 at h
  split at h
  · rw [f23_raw_eq, works_true]; exact h
  · cases h

theorem G6_ok : CtxOk Try.prog G6 := ctxOk_cons ok16 rfl c16 (ctxOk_cons ok20 rfl c20 (ctxOk_cons ok23 rfl c23 (ctxOk_cons ok24 rfl c24 (ctxOk_cons ok26 rfl c26 (ctxOk_cons ok28 rfl c28 (ctxOk_cons ok18 rfl c18 (ctxOk_cons ok30 rfl c30 ctxOk_nil)))))))
end Go.Proofs.Ytiaddnmloonhgaa

/- A number in eight bytes. -/
namespace Go.Proofs.Ytiaddnmloonhgaa
open Go Go.Eng
set_option maxRecDepth 100000

theorem f31_spec {R : Type} (n : Int) (k : List DV → Option R) : f31_raw 9 n k = k [.lst .u8 1 (bytesL n 8)] := by kernel_rfl

def I31 : (R : Type) → List DV → (List DV → Option R) → Option R := fun _ ds k => match ds with
  | [.v (.one (.int .i64 n))] => k [.lst .u8 1 (bytesL n 8)]
  | _ => none

theorem c31 : Contract Try.prog 31 { sig := S31, impl := I31 } := by
  refine Contract.refine fun R ds k r h => ⟨_, f31_contract 9 ctxOk_nil, ?_⟩
  unfold I31 at h
  split at h
  · rw [f31_raw_eq, f31_spec]; exact h
  · cases h

def G8 : Ctx := (31, { sig := S31, impl := I31 }) :: G6
theorem G8_ok : CtxOk Try.prog G8 := ctxOk_cons ok31 rfl c31 G6_ok
end Go.Proofs.Ytiaddnmloonhgaa

/- A tag with a number added. -/
namespace Go.Proofs.Ytiaddnmloonhgaa
open Go Go.Eng
set_option maxRecDepth 100000

def addV (c x y : Int) : Int := IntKind.i64.wrap (IntKind.i64.wrap (c + IntKind.i64.wrap x) + IntKind.i64.wrap y)

def addGo (t s : List Int) : Nat → Nat → Int → List Int
  | 0, _, _ => []
  | m + 1, i, c => IntKind.u8.wrap (addV c (t.getD i 0) (s.getD i 0)) :: addGo t s m (i + 1) (shrI .i64 (addV c (t.getD i 0) (s.getD i 0)) 8)

def addedL (t s : List Int) : List Int := addGo t s 16 0 0

theorem added_loop {R : Type} {N : Nat} (k1 : Bool → Int → Int → List Int → List Int → List Int → Option R) (t s z : List Int) (ht : t.length = 16) (hs : 16 ≤ s.length) :
    ∀ (m i : Nat) (c : Int) (acc : List Int), i + m = 16 → acc.length = i → ∀ fuel, m < fuel → ∃ c' : Int, f32_0_lp N k1 fuel c (i : Int) s (acc ++ t.drop i) z = k1 false c' 16 s (acc ++ addGo t s m i c) z := by
  intro m
  induction m with
  | zero =>
    intro i c acc h ha fuel hf
    obtain ⟨f, rfl⟩ : ∃ f, fuel = f + 1 := ⟨fuel - 1, by omega⟩
    have : i = 16 := by omega
    subst this
    refine ⟨c, ?_⟩
    rw [List.drop_of_length_le (by omega)]
    rfl
  | succ m ih =>
    intro i c acc h ha fuel hf
    obtain ⟨f, rfl⟩ : ∃ f, fuel = f + 1 := ⟨fuel - 1, by omega⟩
    have g0 : (acc ++ t.drop i).getD i 0 = t.getD i 0 := by
      rw [List.getD_eq_getElem?_getD, List.getD_eq_getElem?_getD, List.getElem?_append_right (by omega), ha, Nat.sub_self, List.getElem?_drop, Nat.add_zero]
    have g1 : ∀ x : Int, (acc ++ t.drop i).set i x = (acc ++ [x]) ++ t.drop (i + 1) := by
      intro x
      rw [List.set_append_right _ _ (by omega), ha, Nat.sub_self, List.drop_eq_getElem_cons (show i < t.length by omega), List.set_cons_zero]
      simp
    obtain ⟨c', hc⟩ := ih (i + 1) (shrI .i64 (addV c (t.getD i 0) (s.getD i 0)) 8) (acc ++ [IntKind.u8.wrap (addV c (t.getD i 0) (s.getD i 0))]) (by omega) (by simp [ha]) f (by omega)
    refine ⟨c', ?_⟩
    show f32_0_st N (f32_0_lp N k1 f) k1 _ _ _ _ _ = _
    unfold f32_0_st
    rw [show decide ((i : Int) < 16) = true from decide_eq_true (by omega), show decide ((0 : Int) ≤ (i : Int)) = true from decide_eq_true (by omega),
      show decide ((i : Int) < nI (rowLen 1 s)) = true from decide_eq_true (by show (i : Int) < (s.length : Int); omega)]
    rw [wrapI (x := (i : Int) + 1) (n := i + 1) (by omega) (by omega)]
    simp only [Bool.and_self, cond_true, mulE_one, Int.toNat_natCast, g0, g1]
    refine hc.trans ?_
    rw [addGo, List.append_assoc]
    rfl

def I32 : (R : Type) → List DV → (List DV → Option R) → Option R := fun _ ds k => match ds with
  | [.v (.one (.ints .u8 16 t)), .lst .u8 1 s] => cond (Nat.beq t.length 16 && Nat.ble 16 s.length) (k [.v (.one (.ints .u8 16 (addedL t s)))]) none
  | _ => none

theorem c32 : Contract Try.prog 32 { sig := S32, impl := I32 } := by
  refine Contract.refine fun R ds k r h => ⟨_, f32_contract 17 ctxOk_nil, ?_⟩
  unfold I32 at h
  split at h
  · rename_i t s
    rw [f32_raw_eq]
    cases hb : (Nat.beq t.length 16 && Nat.ble 16 s.length) with
    | false => rw [hb] at h; cases h
    | true =>
      rw [hb] at h
      simp only [Bool.and_eq_true] at hb
      have h1 := Nat.eq_of_beq_eq_true hb.1
      have h2 := Nat.le_of_ble_eq_true hb.2
      unfold f32_raw
      obtain ⟨c', hc⟩ := added_loop (N := 17) (fun w0_1 w0_2 w0_3 w0_4 w0_5 w0_6 => k [DV.v (SV.one (At.ints IntKind.u8 16 w0_5))]) t s (List.replicate 16 0) h1 h2 16 0 0 [] rfl rfl 17 (by omega)
      exact hc.trans h
  · cases h

def G9 : Ctx := (32, { sig := S32, impl := I32 }) :: G8
theorem G9_ok : CtxOk Try.prog G9 := ctxOk_cons ok32 rfl c32 G8_ok
end Go.Proofs.Ytiaddnmloonhgaa

/- The start of a law over a key and bytes. -/
namespace Go.Proofs.Ytiaddnmloonhgaa
open Go Go.Eng
def keyBytesS (n : Nat) (key b : List Int) : AS :=
  { n := n, lo := 0, tmps := [(0, .s (.one (.ints .u8 32 key))), (1, .s (.one (.own 1)))], items := [(1, .view .u8 1 b)] }
end Go.Proofs.Ytiaddnmloonhgaa

/- What rime/rimelaw12.SealPoly comes to. MADE BY PROGRAM (wip/tools/mkfn.py, EngGen.lean). -/
namespace Go.Proofs.Ytiaddnmloonhgaa
open Go Go.Eng
set_option maxRecDepth 100000
set_option linter.unusedVariables false

def f9_0_sh : Shp := { n := 70, lo := 0, slots := [(1, .one (.fix (At.own 1))), (2, .one (.fix (At.ptr 2 0 Off.z 32))), (5, .one (.fix (At.ptr 5 0 Off.z 32))), (6, .one (.int IntKind.i64))], items := [(1, .view IntKind.u8 1), (2, .obj [.ints IntKind.u8 32]), (5, .obj [.ints IntKind.u8 32])] }
def f9_0_ex1 : Shp := { n := 70, lo := 0, slots := [(14, .one (.bool)), (1, .one (.fix (At.own 1))), (2, .one (.fix (At.ptr 2 0 Off.z 32))), (5, .one (.fix (At.ptr 5 0 Off.z 32))), (6, .one (.int IntKind.i64))], items := [(1, .view IntKind.u8 1), (2, .obj [.ints IntKind.u8 32]), (5, .obj [.ints IntKind.u8 32])] }
def f9_0_st {R : Type} (N : Nat) (self : Int → List Int → List Int → List Int → Option R) (k1 : Bool → Int → List Int → List Int → List Int → Option R) (x1 : Int) (x2 : List Int) (x3 : List Int) (x4 : List Int) : Option R :=
 bif Decidable.decide (x1 < 32) then
 bif Decidable.decide (0 ≤ x1) && Decidable.decide (x1 < 32) then
 let v0 : Int := IntKind.i64.wrap (x1 + 1);
 let v1 : List Int := x4.set (mulE x1.toNat 1) 0;
 self v0 x2 x3 v1
 else Option.none
else k1 (Decidable.decide (x1 < 32)) x1 x2 x3 x4
def f9_0_lp {R : Type} (N : Nat) (k1 : Bool → Int → List Int → List Int → List Int → Option R) : Nat → Int → List Int → List Int → List Int → Option R
 | 0, _, _, _, _ => none
 | n + 1, x1, x2, x3, x4 => f9_0_st N (f9_0_lp N k1 n) k1 x1 x2 x3 x4
def f9_0_F (N : Nat) : (R : Type) → List Leaf → (X → AS → Option R) → Option R := fun _ ls K => match ls with
 | [.i x1, .l x2, .l x3, .l x4] => f9_0_lp N (fun y1 y2 y3 y4 y5 => K (X.normal) (fill f9_0_ex1 [.b y1, .i y2, .l y3, .l y4, .l y5])) N x1 x2 x3 x4
 | _ => none
def f9_raw {R : Type} (N : Nat) (key : List Int) (b : List Int) (k : List DV → Option R) : Option R :=
 f9_0_lp N
 (fun w0_1 w0_2 w0_3 w0_4 w0_5 =>
 bif w0_3.length.ble lim then
 bif w0_3.length.ble lim then
 let v1 : List Int := Go.Eng.sub w0_4 (plusO Off.z 1 (Option.some 16)) (mulE (subN (hiNat Option.none 32) (Option.some 16)) 1);
 bif (macL w0_5 w0_3).length.beq 16 && Nat.ble 16 v1.length then
 bif !Decidable.decide (macL w0_4 w0_3 = addedL (macL w0_5 w0_3) v1) then k [DV.v (SV.one (At.bool Bool.false))]
 else
 bif w0_3.length.ble lim then
 let v2 : List Int := Go.Eng.sub w0_4 (plusO Off.z 1 (Option.some 16)) (mulE (subN (hiNat Option.none 32) (Option.some 16)) 1);
 let v3 : Nat := Min.min (rowLen 1 v2) (subN (hiNat Option.none 32) (Option.some 16));
 let v4 : List Int := splice (List.replicate 32 0) (plusO Off.z 1 (Option.some 16)) (List.take (mulE v3 1) v2);
 let v5 : Nat := Min.min (rowLen 1 v2) (subN (hiNat Option.none 16) Option.none);
 let v6 : List Int := splice (List.replicate 16 0) (plusO Off.z 1 Option.none) (List.take (mulE v5 1) v2);
 bif !Decidable.decide (macL v4 w0_3 = v6) then k [DV.v (SV.one (At.bool Bool.false))]
 else
 let v7 : Bool := bif Bool.false then Bool.true else !Decidable.decide (macL w0_4 [] = v6);
 bif v7 then k [DV.v (SV.one (At.bool Bool.false))]
 else
 bif Decidable.decide (nI (rowLen 1 w0_3) > 15) then
 bif hiOk (Option.some 15) (rowLen 1 w0_3) then
 let v8 : List Int := Go.Eng.sub w0_3 (plusO Off.z 1 Option.none) (mulE (subN (hiNat (Option.some 15) (rowLen 1 w0_3)) Option.none) 1);
 bif v8.length.ble lim then
 let v9 : List Int := (zerosOf (1 * 1)).set 0 1;
 bif ((2 * (rowLen 1 v8 + rowLen 1 v9) + 192) * 1).ble big48 && (rowLen 1 v8 + rowLen 1 v9).ble big48 then
 let v10 : List Int := v8 ++ v9;
 bif ((2 * (rowLen 1 v10 + rowLen 1 (zerosOf (mulE (Int.toNat 16) 1))) + 192) * 1).ble big48 && (rowLen 1 v10 + rowLen 1 (zerosOf (mulE (Int.toNat 16) 1))).ble big48 then
 let v11 : List Int := v10 ++ zerosOf (mulE (Int.toNat 16) 1);
 bif v6.length.beq 16 && Nat.ble 16 v11.length then
 bif v8.length.ble lim then
 let v12 : List Int := v4.set (mulE (Int.toNat 0) 1) 1;
 let v13 : Bool := bif Bool.false then Bool.true else Decidable.decide (macL v12 v8 = addedL v6 v11);
 k [DV.v (SV.one (At.bool v13))]
 else Option.none
 else Option.none
 else Option.none
 else Option.none
 else Option.none
 else Option.none
 else
 bif w0_3.length.ble lim then
 let v14 : List Int := (zerosOf (1 * 1)).set 0 1;
 bif ((2 * (rowLen 1 w0_3 + rowLen 1 v14) + 192) * 1).ble big48 && (rowLen 1 w0_3 + rowLen 1 v14).ble big48 then
 let v15 : List Int := w0_3 ++ v14;
 bif ((2 * (rowLen 1 v15 + rowLen 1 (zerosOf (mulE (Int.toNat 16) 1))) + 192) * 1).ble big48 && (rowLen 1 v15 + rowLen 1 (zerosOf (mulE (Int.toNat 16) 1))).ble big48 then
 let v16 : List Int := v15 ++ zerosOf (mulE (Int.toNat 16) 1);
 bif v6.length.beq 16 && Nat.ble 16 v16.length then
 bif nI (rowLen 1 w0_3) == 0 then k [DV.v (SV.one (At.bool Bool.true))]
 else
 bif w0_3.length.ble lim then
 let v17 : List Int := v4.set (mulE (Int.toNat 0) 1) 1;
 let v18 : Bool := bif Bool.false then Bool.true else Decidable.decide (macL v17 w0_3 = addedL v6 v16);
 k [DV.v (SV.one (At.bool v18))]
 else Option.none
 else Option.none
 else Option.none
 else Option.none
 else Option.none
 else Option.none
 else Option.none
 else Option.none
 else Option.none)
 N 16 b key key


noncomputable def E9 (N : Nat) : Env := { Θ := Th, Γ := G9, K := K9, ν := N9, fuel := 0, lp := [(0, mkL N9_0 f9_0_sh (f9_0_F N))] }

theorem f9_0_st_eq {R : Type} (N : Nat) (K : X → AS → Option R) (n : Nat) (x1 : Int) (x2 : List Int) (x3 : List Int) (x4 : List Int) : roundsOf (E9 N) N9_0 0 B9_0 K (n + 1) (fill f9_0_sh [.i x1, .l x2, .l x3, .l x4]) = f9_0_st N (fun x1 x2 x3 x4 => roundsOf (E9 N) N9_0 0 B9_0 K n (fill f9_0_sh [.i x1, .l x2, .l x3, .l x4])) (fun y1 y2 y3 y4 y5 => K (X.normal) (fill f9_0_ex1 [.b y1, .i y2, .l y3, .l y4, .l y5])) x1 x2 x3 x4 := by kernel_rfl
theorem f9_0_lp_eq {R : Type} (N : Nat) (K : X → AS → Option R) : ∀ (n : Nat) (x1 : Int) (x2 : List Int) (x3 : List Int) (x4 : List Int), roundsOf (E9 N) N9_0 0 B9_0 K n (fill f9_0_sh [.i x1, .l x2, .l x3, .l x4]) = f9_0_lp N (fun y1 y2 y3 y4 y5 => K (X.normal) (fill f9_0_ex1 [.b y1, .i y2, .l y3, .l y4, .l y5])) n x1 x2 x3 x4
  | 0, _, _, _, _ => rfl
  | n + 1, x1, x2, x3, x4 => by
    rw [f9_0_st_eq, f9_0_lp, show (fun x1 x2 x3 x4 => roundsOf (E9 N) N9_0 0 B9_0 K n (fill f9_0_sh [.i x1, .l x2, .l x3, .l x4])) = f9_0_lp N (fun y1 y2 y3 y4 y5 => K (X.normal) (fill f9_0_ex1 [.b y1, .i y2, .l y3, .l y4, .l y5])) n from by funext x1 x2 x3 x4; exact f9_0_lp_eq N K n x1 x2 x3 x4]
theorem f9_0_ok (N : Nat) (hlp : LoopsOk Try.prog (E9 N).lp B9_0) (hΓ : CtxOk Try.prog (E9 N).Γ) : LoopOk Try.prog (mkL N9_0 f9_0_sh (f9_0_F N)) 0 B9_0 := by
  refine loopOk_of (E := E9 N) thOk hΓ mixed hlp ?_
  intro R ls K r h
  unfold f9_0_F at h
  split at h
  · exact ⟨N, by rw [f9_0_lp_eq]; exact h⟩
  · cases h

theorem lok9_0 (N : Nat) (hΓ : CtxOk Try.prog G9) : LoopOk Try.prog (mkL N9_0 f9_0_sh (f9_0_F N)) 0 B9_0 := f9_0_ok N (loopsOk_of (l := []) (by kernel_rfl) trivial) hΓ
theorem f9_loops (N : Nat) (hΓ : CtxOk Try.prog G9) : LoopsOk Try.prog (E9 N).lp B9 := loopsOk_of (l := [(0, B9_0)]) (by kernel_rfl) (allOk_cons (L := mkL N9_0 f9_0_sh (f9_0_F N)) rfl (lok9_0 N hΓ) trivial)
theorem f9_raw_eq {R : Type} (N : Nat) (key : List Int) (b : List Int) (k : List DV → Option R) : exec (E9 N) B9 (keyBytesS 70 key b) (retK Th { ps := [], rs := [.val] } [] R9 k) = f9_raw N key b k := by kernel_rfl
end Go.Proofs.Ytiaddnmloonhgaa

/- The digits of a tag. -/
namespace Go.Proofs.Ytiaddnmloonhgaa
open Go Go.Eng
set_option maxRecDepth 100000

def bitsGo (w : List Int) (base : Nat) : Nat → Nat → Int → Int
  | 0, _, x => x
  | m + 1, j, x => bitsGo w base m (j + 1) (orI .u64 x (shlI .u64 (andI .u64 (shrI .u64 (w.getD ((base + j) / 26) 0) (((base + j) % 26 : Nat) : Int)) 1) (j : Int)))

def digGo (key w : List Int) : Nat → Nat → Int → List Int
  | 0, _, _ => []
  | m + 1, i, c =>
    let v := IntKind.u64.wrap (c + IntKind.u64.wrap (bitsGo w (8 * i) 8 0 0 + IntKind.u64.wrap (key.getD (16 + i) 0)))
    IntKind.u8.wrap v :: digGo key w m (i + 1) (shrI .u64 v 8)

theorem digL_eq (key b' w : List Int) : digL key b' w = digGo key w 16 0 0 := by kernel_rfl

theorem digGo_bytes (key w : List Int) : ∀ (m i : Nat) (c : Int), Bytes (digGo key w m i c)
  | 0, _, _ => by intro x hx; cases hx
  | m + 1, i, c => by
    intro x hx
    rcases List.mem_cons.1 hx with e | hx
    · subst e; exact wrapU8_byte _
    · exact digGo_bytes key w m (i + 1) _ x hx

theorem mac_bytes (key b : List Int) : Bytes (macL key b) := by
  unfold macL; rw [digL_eq]; exact digGo_bytes _ _ _ _ _

theorem tag_bytes (key nonce a b : List Int) : Bytes (tagL key nonce a b) := mac_bytes _ _
end Go.Proofs.Ytiaddnmloonhgaa

/- Numbers: what the machine's operations do to natural numbers that fit. -/
namespace Go.Eng
open Go

theorem wrapMod {k : IntKind} (hk : k.signed = false) (n : Nat) : k.wrap (n : Int) = ((n % 2 ^ k.bits : Nat) : Int) := by
  unfold IntKind.wrap
  simp only [hk, Bool.false_and, Bool.false_eq_true, if_false]
  rfl

theorem wrapFit {k : IntKind} (hk : k.signed = false) {n : Nat} (h : n < 2 ^ k.bits) : k.wrap (n : Int) = (n : Int) := by
  rw [wrapMod hk, Nat.mod_eq_of_lt h]

theorem w64 {n : Nat} (h : n < 18446744073709551616) : IntKind.u64.wrap (n : Int) = (n : Int) := wrapFit rfl h
theorem w32 {n : Nat} (h : n < 4294967296) : IntKind.u32.wrap (n : Int) = (n : Int) := wrapFit rfl h
theorem w8 {n : Nat} (h : n < 256) : IntKind.u8.wrap (n : Int) = (n : Int) := wrapFit rfl h
theorem wm64 (n : Nat) : IntKind.u64.wrap (n : Int) = ((n % 18446744073709551616 : Nat) : Int) := wrapMod rfl n
theorem wm32 (n : Nat) : IntKind.u32.wrap (n : Int) = ((n % 4294967296 : Nat) : Int) := wrapMod rfl n
theorem wm8 (n : Nat) : IntKind.u8.wrap (n : Int) = ((n % 256 : Nat) : Int) := wrapMod rfl n
theorem wi64 {n : Nat} (h : n < 9223372036854775808) : IntKind.i64.wrap (n : Int) = (n : Int) := by
  simp [IntKind.wrap, IntKind.bits, IntKind.signed]; omega

theorem shrN {k : IntKind} {m : Nat} (hm : m ≤ k.bits) (n : Nat) : shrI k (n : Int) (m : Int) = ((n / 2 ^ m : Nat) : Int) := by
  unfold shrI
  rw [Int.toNat_natCast, Nat.min_eq_left hm]
  rw [Int.fdiv_eq_ediv_of_nonneg _ (by exact Int.le_of_lt (Int.pow_pos (by decide)))]
  simp

theorem shlN {k : IntKind} (hk : k.signed = false) {m : Nat} (hm : m ≤ k.bits) (n : Nat) : shlI k (n : Int) (m : Int) = ((n * 2 ^ m % 2 ^ k.bits : Nat) : Int) := by
  unfold shlI
  rw [Int.toNat_natCast, Nat.min_eq_left hm]
  rw [show (n : Int) * 2 ^ m = ((n * 2 ^ m : Nat) : Int) by simp, wrapMod hk]

theorem bvNat {w n : Nat} (h : n < 2 ^ w) : (BitVec.ofInt w (n : Int)).toNat = n := by
  rw [BitVec.ofInt_natCast, BitVec.toNat_ofNat, Nat.mod_eq_of_lt h]

theorem andN {k : IntKind} (hk : k.signed = false) {a b : Nat} (ha : a < 2 ^ k.bits) (hb : b < 2 ^ k.bits) : andI k (a : Int) (b : Int) = ((a &&& b : Nat) : Int) := by
  unfold andI
  rw [BitVec.toNat_and, bvNat ha, bvNat hb]
  exact wrapFit hk (Nat.lt_of_le_of_lt Nat.and_le_left ha)

theorem orN {k : IntKind} (hk : k.signed = false) {a b : Nat} (ha : a < 2 ^ k.bits) (hb : b < 2 ^ k.bits) : orI k (a : Int) (b : Int) = ((a ||| b : Nat) : Int) := by
  unfold orI
  rw [BitVec.toNat_or, bvNat ha, bvNat hb]
  exact wrapFit hk (Nat.or_lt_two_pow ha hb)

theorem xorN {k : IntKind} (hk : k.signed = false) {a b : Nat} (ha : a < 2 ^ k.bits) (hb : b < 2 ^ k.bits) : xorI k (a : Int) (b : Int) = ((a ^^^ b : Nat) : Int) := by
  unfold xorI
  rw [BitVec.toNat_xor, bvNat ha, bvNat hb]
  exact wrapFit hk (Nat.xor_lt_two_pow ha hb)

/-- a mask of so many ones -/
theorem maskN {k : IntKind} (hk : k.signed = false) {a j : Nat} (ha : a < 2 ^ k.bits) (hj : j ≤ k.bits) : andI k (a : Int) ((2 ^ j - 1 : Nat) : Int) = ((a % 2 ^ j : Nat) : Int) := by
  rw [andN hk ha (Nat.lt_of_lt_of_le (Nat.sub_lt (Nat.two_pow_pos j) (by decide)) (Nat.pow_le_pow_right (by decide) hj)), Nat.and_two_pow_sub_one_eq_mod]

/-- what lies above and what lies below, put together -/
theorem or_addN {a b j : Nat} (hb : b < 2 ^ j) : (a * 2 ^ j) ||| b = a * 2 ^ j + b := by
  rw [Nat.mul_comm, Nat.two_pow_add_eq_or_of_lt hb]

theorem or_addN' {a b j : Nat} (hb : b < 2 ^ j) : b ||| (a * 2 ^ j) = b + a * 2 ^ j := by
  rw [Nat.or_comm, or_addN hb, Nat.add_comm]

def nats (l : List Nat) : List Int := l.map Int.ofNat

theorem nats_getD (l : List Nat) (i : Nat) : (nats l).getD i 0 = ((l.getD i 0 : Nat) : Int) := by
  simp only [nats, List.getD_eq_getElem?_getD, List.getElem?_map]
  cases l[i]? <;> rfl

theorem nats_set (l : List Nat) (i n : Nat) : (nats l).set i (n : Int) = nats (l.set i n) := by
  simp [nats, List.map_set]

theorem nats_length (l : List Nat) : (nats l).length = l.length := by simp [nats]

theorem nats_inj {a b : List Nat} : nats a = nats b ↔ a = b := by
  constructor
  · intro h
    have : ∀ (a b : List Nat), nats a = nats b → a = b := by
      intro a
      induction a with
      | nil => intro b h; cases b with | nil => rfl | cons y b => simp [nats] at h
      | cons x a ih =>
        intro b h
        cases b with
        | nil => simp [nats] at h
        | cons y b =>
          simp only [nats, List.map_cons, List.cons.injEq] at h
          rw [ih b h.2, Int.ofNat_inj.1 h.1]
    exact this a b h
  · rintro rfl; rfl

/-- numbers that are not below 0, as natural numbers -/
theorem nats_of {xs : List Int} (h : ∀ x ∈ xs, 0 ≤ x) : ∃ l : List Nat, xs = nats l := by
  induction xs with
  | nil => exact ⟨[], rfl⟩
  | cons x xs ih =>
    obtain ⟨l, e⟩ := ih fun y hy => h y (.tail _ hy)
    have hx := h x (.head _)
    exact ⟨x.toNat :: l, by rw [e]; simp [nats]; omega⟩

/-- the number of digits, the lowest first -/
def valB (b : Nat) : List Nat → Nat
  | [] => 0
  | x :: l => x + b * valB b l

theorem valB_append (b : Nat) : ∀ (l m : List Nat), valB b (l ++ m) = valB b l + b ^ l.length * valB b m
  | [], m => by simp [valB]
  | x :: l, m => by
    rw [List.cons_append, valB, valB_append b l m, valB, List.length_cons, Nat.pow_succ]
    rw [Nat.mul_add, Nat.add_assoc, ← Nat.mul_assoc b, Nat.mul_comm b (b ^ l.length)]

theorem valB_lt {b : Nat} (hb : 0 < b) : ∀ {l : List Nat}, (∀ x ∈ l, x < b) → valB b l < b ^ l.length
  | [], _ => by simp [valB]
  | x :: l, h => by
    have h1 := h x (.head _)
    have h2 := valB_lt hb (l := l) fun y hy => h y (.tail _ hy)
    rw [valB, List.length_cons, Nat.pow_succ, Nat.mul_comm _ b]
    have h3 : b * (valB b l + 1) ≤ b * b ^ l.length := Nat.mul_le_mul_left b h2
    rw [Nat.mul_add] at h3
    omega

/-- digits that are digits are the number's -/
theorem valB_inj {b : Nat} (hb : 0 < b) : ∀ {l m : List Nat}, l.length = m.length → (∀ x ∈ l, x < b) → (∀ x ∈ m, x < b) → valB b l = valB b m → l = m
  | [], [], _, _, _, _ => rfl
  | [], _ :: _, h, _, _, _ => by simp at h
  | _ :: _, [], h, _, _, _ => by simp at h
  | x :: l, y :: m, h, h1, h2, h3 => by
    have hx := h1 x (.head _)
    have hy := h2 y (.head _)
    simp only [valB] at h3
    have e1 : (x + b * valB b l) % b = x := by rw [Nat.add_mul_mod_self_left, Nat.mod_eq_of_lt hx]
    have e2 : (y + b * valB b m) % b = y := by rw [Nat.add_mul_mod_self_left, Nat.mod_eq_of_lt hy]
    have e : x = y := by rw [← e1, ← e2, h3]
    subst e
    have h4 : valB b l = valB b m := Nat.eq_of_mul_eq_mul_left hb (by omega)
    rw [valB_inj hb (by simpa using h) (fun z hz => h1 z (.tail _ hz)) (fun z hz => h2 z (.tail _ hz)) h4]

/-- the digits of a number -/
def digs (b : Nat) : Nat → Nat → List Nat
  | 0, _ => []
  | m + 1, n => n % b :: digs b m (n / b)

theorem digs_length (b : Nat) : ∀ (m n : Nat), (digs b m n).length = m
  | 0, _ => rfl
  | m + 1, n => by simp [digs, digs_length b m]

theorem digs_val (b : Nat) : ∀ (m n : Nat), valB b (digs b m n) = n % b ^ m
  | 0, n => by simp [digs, valB, Nat.mod_one]
  | m + 1, n => by
    rw [digs, valB, digs_val b m, Nat.pow_succ, Nat.mul_comm _ b, Nat.mod_mul]

theorem digs_lt {b : Nat} (hb : 0 < b) : ∀ {m n : Nat}, ∀ x ∈ digs b m n, x < b
  | 0, _, x, h => by cases h
  | m + 1, n, x, h => by
    rcases List.mem_cons.1 h with e | h
    · subst e; exact Nat.mod_lt _ hb
    · exact digs_lt hb x h

theorem digs_of {b : Nat} (hb : 0 < b) {l : List Nat} (h : ∀ x ∈ l, x < b) : digs b l.length (valB b l) = l :=
  valB_inj hb (digs_length _ _ _) (digs_lt hb) h (by rw [digs_val, Nat.mod_eq_of_lt (valB_lt hb h)])

end Go.Eng

/- Limbs as natural numbers: carrying, the product modulo 2^130 - 5. -/
namespace Go.Proofs.Ytiaddnmloonhgaa
open Go Go.Eng
set_option maxRecDepth 100000

/-! ### carrying -/

def carI (a0 a1 a2 a3 a4 : Int) : List Int :=
  let s0 := IntKind.u64.wrap (a0 + 0)
  let s1 := IntKind.u64.wrap (a1 + shrI .u64 s0 26)
  let s2 := IntKind.u64.wrap (a2 + shrI .u64 s1 26)
  let s3 := IntKind.u64.wrap (a3 + shrI .u64 s2 26)
  let s4 := IntKind.u64.wrap (a4 + shrI .u64 s3 26)
  [IntKind.u64.wrap (andI .u64 s0 67108863 + IntKind.u64.wrap (5 * shrI .u64 s4 26)), andI .u64 s1 67108863, andI .u64 s2 67108863, andI .u64 s3 67108863, andI .u64 s4 67108863]

theorem carried_eq (a0 a1 a2 a3 a4 : Int) : carriedL [a0, a1, a2, a3, a4] = carI a0 a1 a2 a3 a4 := by kernel_rfl

def carC (a0 a1 a2 a3 a4 : Nat) : Nat := (a4 + (a3 + (a2 + (a1 + a0 / 67108864) / 67108864) / 67108864) / 67108864) / 67108864

def carN (a0 a1 a2 a3 a4 : Nat) : List Nat :=
  [a0 % 67108864 + 5 * carC a0 a1 a2 a3 a4, (a1 + a0 / 67108864) % 67108864, (a2 + (a1 + a0 / 67108864) / 67108864) % 67108864,
    (a3 + (a2 + (a1 + a0 / 67108864) / 67108864) / 67108864) % 67108864, (a4 + (a3 + (a2 + (a1 + a0 / 67108864) / 67108864) / 67108864) / 67108864) % 67108864]

theorem shr26 (n : Nat) : shrI .u64 (n : Int) 26 = ((n / 67108864 : Nat) : Int) := shrN (k := .u64) (m := 26) (by decide) n
theorem and26 {n : Nat} (h : n < 18446744073709551616) : andI .u64 (n : Int) 67108863 = ((n % 67108864 : Nat) : Int) := maskN (k := .u64) (j := 26) rfl h (by decide)

theorem car_nat {a0 a1 a2 a3 a4 : Nat} (h0 : a0 < 4611686018427387904) (h1 : a1 < 4611686018427387904) (h2 : a2 < 4611686018427387904) (h3 : a3 < 4611686018427387904) (h4 : a4 < 4611686018427387904) :
    carriedL [(a0 : Int), (a1 : Int), (a2 : Int), (a3 : Int), (a4 : Int)] = nats (carN a0 a1 a2 a3 a4) := by
  rw [carried_eq]
  unfold carI
  have e0 : IntKind.u64.wrap ((a0 : Int) + 0) = (a0 : Int) := by rw [Int.add_zero]; exact w64 (by omega)
  dsimp only
  simp only [e0, shr26]
  have e1 : IntKind.u64.wrap ((a1 : Int) + ((a0 / 67108864 : Nat) : Int)) = ((a1 + a0 / 67108864 : Nat) : Int) := w64 (n := a1 + a0 / 67108864) (by omega)
  simp only [e1, shr26]
  generalize hs1 : a1 + a0 / 67108864 = s1
  have e2 : IntKind.u64.wrap ((a2 : Int) + ((s1 / 67108864 : Nat) : Int)) = ((a2 + s1 / 67108864 : Nat) : Int) := w64 (n := a2 + s1 / 67108864) (by omega)
  simp only [e2, shr26]
  generalize hs2 : a2 + s1 / 67108864 = s2
  have e3 : IntKind.u64.wrap ((a3 : Int) + ((s2 / 67108864 : Nat) : Int)) = ((a3 + s2 / 67108864 : Nat) : Int) := w64 (n := a3 + s2 / 67108864) (by omega)
  simp only [e3, shr26]
  generalize hs3 : a3 + s2 / 67108864 = s3
  have e4 : IntKind.u64.wrap ((a4 : Int) + ((s3 / 67108864 : Nat) : Int)) = ((a4 + s3 / 67108864 : Nat) : Int) := w64 (n := a4 + s3 / 67108864) (by omega)
  simp only [e4, shr26]
  generalize hs4 : a4 + s3 / 67108864 = s4
  have e5 : IntKind.u64.wrap (5 * ((s4 / 67108864 : Nat) : Int)) = ((5 * (s4 / 67108864) : Nat) : Int) := w64 (n := 5 * (s4 / 67108864)) (by omega)
  rw [e5, and26 (by omega), and26 (by omega), and26 (by omega), and26 (by omega), and26 (by omega)]
  have e6 : IntKind.u64.wrap (((a0 % 67108864 : Nat) : Int) + ((5 * (s4 / 67108864) : Nat) : Int)) = ((a0 % 67108864 + 5 * (s4 / 67108864) : Nat) : Int) := w64 (n := a0 % 67108864 + 5 * (s4 / 67108864)) (by omega)
  rw [e6]
  unfold carN carC
  rw [hs1, hs2, hs3, hs4]
  rfl

/-- the number of five limbs -/
def val5 (a0 a1 a2 a3 a4 : Nat) : Nat := a0 + 67108864 * (a1 + 67108864 * (a2 + 67108864 * (a3 + 67108864 * a4)))

def p1305 : Nat := 1361129467683753853853498429727072845819

theorem val5_eq (a0 a1 a2 a3 a4 : Nat) : valB 67108864 [a0, a1, a2, a3, a4] = val5 a0 a1 a2 a3 a4 := by simp [valB, val5]

theorem car_val (a0 a1 a2 a3 a4 : Nat) : valB 67108864 (carN a0 a1 a2 a3 a4) + carC a0 a1 a2 a3 a4 * p1305 = val5 a0 a1 a2 a3 a4 := by
  unfold carN carC p1305
  generalize hs1 : a1 + a0 / 67108864 = s1
  generalize hs2 : a2 + s1 / 67108864 = s2
  generalize hs3 : a3 + s2 / 67108864 = s3
  generalize hs4 : a4 + s3 / 67108864 = s4
  rw [val5_eq]
  unfold val5
  omega

/-! ### the product -/

def adI (x y : Int) : Int := IntKind.u64.wrap (x + y)
def muI (x y : Int) : Int := IntKind.u64.wrap (x * y)
def fvI (x y : Int) : Int := IntKind.u64.wrap (IntKind.u64.wrap (5 * x) * y)

def tmI (a0 a1 a2 a3 a4 b0 b1 b2 b3 b4 : Int) : List Int := [(adI (adI (adI (adI (adI 0 (muI a0 b0)) (fvI a1 b4)) (fvI a2 b3)) (fvI a3 b2)) (fvI a4 b1)), (adI (adI (adI (adI (adI 0 (muI a0 b1)) (muI a1 b0)) (fvI a2 b4)) (fvI a3 b3)) (fvI a4 b2)), (adI (adI (adI (adI (adI 0 (muI a0 b2)) (muI a1 b1)) (muI a2 b0)) (fvI a3 b4)) (fvI a4 b3)), (adI (adI (adI (adI (adI 0 (muI a0 b3)) (muI a1 b2)) (muI a2 b1)) (muI a3 b0)) (fvI a4 b4)), (adI (adI (adI (adI (adI 0 (muI a0 b4)) (muI a1 b3)) (muI a2 b2)) (muI a3 b1)) (muI a4 b0))]

theorem times_eq (a0 a1 a2 a3 a4 b0 b1 b2 b3 b4 : Int) : timesL [a0, a1, a2, a3, a4] [b0, b1, b2, b3, b4] = carriedL (carriedL (tmI a0 a1 a2 a3 a4 b0 b1 b2 b3 b4)) := by kernel_rfl

def tm0 (a0 a1 a2 a3 a4 b0 b1 b2 b3 b4 : Nat) : Nat := a0 * b0 + 5 * (a1 * b4) + 5 * (a2 * b3) + 5 * (a3 * b2) + 5 * (a4 * b1)
def tm1 (a0 a1 a2 a3 a4 b0 b1 b2 b3 b4 : Nat) : Nat := a0 * b1 + a1 * b0 + 5 * (a2 * b4) + 5 * (a3 * b3) + 5 * (a4 * b2)
def tm2 (a0 a1 a2 a3 a4 b0 b1 b2 b3 b4 : Nat) : Nat := a0 * b2 + a1 * b1 + a2 * b0 + 5 * (a3 * b4) + 5 * (a4 * b3)
def tm3 (a0 a1 a2 a3 a4 b0 b1 b2 b3 b4 : Nat) : Nat := a0 * b3 + a1 * b2 + a2 * b1 + a3 * b0 + 5 * (a4 * b4)
def tm4 (a0 a1 a2 a3 a4 b0 b1 b2 b3 b4 : Nat) : Nat := a0 * b4 + a1 * b3 + a2 * b2 + a3 * b1 + a4 * b0

theorem muN {x y : Nat} (hx : x ≤ 268435456) (hy : y ≤ 134217728) : muI (x : Int) (y : Int) = ((x * y : Nat) : Int) ∧ x * y ≤ 36028797018963968 := by
  have h : x * y ≤ 268435456 * 134217728 := Nat.mul_le_mul hx hy
  exact ⟨w64 (n := x * y) (by omega), by omega⟩
theorem fvN {x y : Nat} (hx : x ≤ 268435456) (hy : y ≤ 134217728) : fvI (x : Int) (y : Int) = ((5 * (x * y) : Nat) : Int) := by
  have h : x * y ≤ 268435456 * 134217728 := Nat.mul_le_mul hx hy
  have e : IntKind.u64.wrap (5 * (x : Int)) = ((5 * x : Nat) : Int) := w64 (n := 5 * x) (by omega)
  unfold fvI
  rw [e, ← Nat.mul_assoc]
  exact w64 (n := 5 * x * y) (by rw [Nat.mul_assoc]; omega)
theorem adN {x y : Nat} (h : x + y < 18446744073709551616) : adI (x : Int) (y : Int) = ((x + y : Nat) : Int) := w64 (n := x + y) h

/-- limbs that may be multiplied -/
def Lim (b : Nat) (a0 a1 a2 a3 a4 : Nat) : Prop := a0 ≤ b ∧ a1 ≤ b ∧ a2 ≤ b ∧ a3 ≤ b ∧ a4 ≤ b

theorem tm_nat {a0 a1 a2 a3 a4 b0 b1 b2 b3 b4 : Nat} (ha : Lim 268435456 a0 a1 a2 a3 a4) (hb : Lim 134217728 b0 b1 b2 b3 b4) :
    tmI (a0 : Int) (a1 : Int) (a2 : Int) (a3 : Int) (a4 : Int) (b0 : Int) (b1 : Int) (b2 : Int) (b3 : Int) (b4 : Int) = [((tm0 a0 a1 a2 a3 a4 b0 b1 b2 b3 b4 : Nat) : Int), ((tm1 a0 a1 a2 a3 a4 b0 b1 b2 b3 b4 : Nat) : Int), ((tm2 a0 a1 a2 a3 a4 b0 b1 b2 b3 b4 : Nat) : Int), ((tm3 a0 a1 a2 a3 a4 b0 b1 b2 b3 b4 : Nat) : Int), ((tm4 a0 a1 a2 a3 a4 b0 b1 b2 b3 b4 : Nat) : Int)] ∧ tm0 a0 a1 a2 a3 a4 b0 b1 b2 b3 b4 < 4611686018427387904 ∧ tm1 a0 a1 a2 a3 a4 b0 b1 b2 b3 b4 < 4611686018427387904 ∧ tm2 a0 a1 a2 a3 a4 b0 b1 b2 b3 b4 < 4611686018427387904 ∧ tm3 a0 a1 a2 a3 a4 b0 b1 b2 b3 b4 < 4611686018427387904 ∧ tm4 a0 a1 a2 a3 a4 b0 b1 b2 b3 b4 < 4611686018427387904 := by
  obtain ⟨h0, h1, h2, h3, h4⟩ := ha
  obtain ⟨k0, k1, k2, k3, k4⟩ := hb
  obtain ⟨m00, q00⟩ := muN h0 k0
  obtain ⟨m01, q01⟩ := muN h0 k1
  obtain ⟨m02, q02⟩ := muN h0 k2
  obtain ⟨m03, q03⟩ := muN h0 k3
  obtain ⟨m04, q04⟩ := muN h0 k4
  obtain ⟨m10, q10⟩ := muN h1 k0
  obtain ⟨m11, q11⟩ := muN h1 k1
  obtain ⟨m12, q12⟩ := muN h1 k2
  obtain ⟨m13, q13⟩ := muN h1 k3
  obtain ⟨m14, q14⟩ := muN h1 k4
  have f14 := fvN h1 k4
  obtain ⟨m20, q20⟩ := muN h2 k0
  obtain ⟨m21, q21⟩ := muN h2 k1
  obtain ⟨m22, q22⟩ := muN h2 k2
  obtain ⟨m23, q23⟩ := muN h2 k3
  have f23 := fvN h2 k3
  obtain ⟨m24, q24⟩ := muN h2 k4
  have f24 := fvN h2 k4
  obtain ⟨m30, q30⟩ := muN h3 k0
  obtain ⟨m31, q31⟩ := muN h3 k1
  obtain ⟨m32, q32⟩ := muN h3 k2
  have f32 := fvN h3 k2
  obtain ⟨m33, q33⟩ := muN h3 k3
  have f33 := fvN h3 k3
  obtain ⟨m34, q34⟩ := muN h3 k4
  have f34 := fvN h3 k4
  obtain ⟨m40, q40⟩ := muN h4 k0
  obtain ⟨m41, q41⟩ := muN h4 k1
  have f41 := fvN h4 k1
  obtain ⟨m42, q42⟩ := muN h4 k2
  have f42 := fvN h4 k2
  obtain ⟨m43, q43⟩ := muN h4 k3
  have f43 := fvN h4 k3
  obtain ⟨m44, q44⟩ := muN h4 k4
  have f44 := fvN h4 k4
  unfold tmI tm0 tm1 tm2 tm3 tm4
  simp only [m00, m01, m02, m03, m04, m10, m11, m12, m13, m20, m21, m22, m30, m31, m40, f14, f23, f24, f32, f33, f34, f41, f42, f43, f44]
  clear m00 m01 m02 m03 m04 m10 m11 m12 m13 m14 m20 m21 m22 m23 m24 m30 m31 m32 m33 m34 m40 m41 m42 m43 m44 f14 f23 f24 f32 f33 f34 f41 f42 f43 f44
  generalize a0 * b0 = P00 at *
  generalize a0 * b1 = P01 at *
  generalize a0 * b2 = P02 at *
  generalize a0 * b3 = P03 at *
  generalize a0 * b4 = P04 at *
  generalize a1 * b0 = P10 at *
  generalize a1 * b1 = P11 at *
  generalize a1 * b2 = P12 at *
  generalize a1 * b3 = P13 at *
  generalize a1 * b4 = P14 at *
  generalize a2 * b0 = P20 at *
  generalize a2 * b1 = P21 at *
  generalize a2 * b2 = P22 at *
  generalize a2 * b3 = P23 at *
  generalize a2 * b4 = P24 at *
  generalize a3 * b0 = P30 at *
  generalize a3 * b1 = P31 at *
  generalize a3 * b2 = P32 at *
  generalize a3 * b3 = P33 at *
  generalize a3 * b4 = P34 at *
  generalize a4 * b0 = P40 at *
  generalize a4 * b1 = P41 at *
  generalize a4 * b2 = P42 at *
  generalize a4 * b3 = P43 at *
  generalize a4 * b4 = P44 at *
  have z : ∀ n : Nat, n < 18446744073709551616 → adI 0 (n : Int) = (n : Int) := fun n h => by unfold adI; rw [Int.zero_add]; exact w64 h
  refine ⟨?_, by omega, by omega, by omega, by omega, by omega⟩
  rw [z (P00) (by omega), adN (x := P00) (y := 5 * P14) (by omega), adN (x := P00 + 5 * P14) (y := 5 * P23) (by omega), adN (x := P00 + 5 * P14 + 5 * P23) (y := 5 * P32) (by omega), adN (x := P00 + 5 * P14 + 5 * P23 + 5 * P32) (y := 5 * P41) (by omega)]
  rw [z (P01) (by omega), adN (x := P01) (y := P10) (by omega), adN (x := P01 + P10) (y := 5 * P24) (by omega), adN (x := P01 + P10 + 5 * P24) (y := 5 * P33) (by omega), adN (x := P01 + P10 + 5 * P24 + 5 * P33) (y := 5 * P42) (by omega)]
  rw [z (P02) (by omega), adN (x := P02) (y := P11) (by omega), adN (x := P02 + P11) (y := P20) (by omega), adN (x := P02 + P11 + P20) (y := 5 * P34) (by omega), adN (x := P02 + P11 + P20 + 5 * P34) (y := 5 * P43) (by omega)]
  rw [z (P03) (by omega), adN (x := P03) (y := P12) (by omega), adN (x := P03 + P12) (y := P21) (by omega), adN (x := P03 + P12 + P21) (y := P30) (by omega), adN (x := P03 + P12 + P21 + P30) (y := 5 * P44) (by omega)]
  rw [z (P04) (by omega), adN (x := P04) (y := P13) (by omega), adN (x := P04 + P13) (y := P22) (by omega), adN (x := P04 + P13 + P22) (y := P31) (by omega), adN (x := P04 + P13 + P22 + P31) (y := P40) (by omega)]

theorem mul_val5 (x b0 b1 b2 b3 b4 : Nat) : x * val5 b0 b1 b2 b3 b4 = val5 (x * b0) (x * b1) (x * b2) (x * b3) (x * b4) := by
  unfold val5; simp only [Nat.mul_add, Nat.mul_left_comm x]
theorem val5_mul (a0 a1 a2 a3 a4 y : Nat) : val5 a0 a1 a2 a3 a4 * y = val5 (a0 * y) (a1 * y) (a2 * y) (a3 * y) (a4 * y) := by
  unfold val5; simp only [Nat.add_mul, Nat.mul_assoc]

theorem tm_val (a0 a1 a2 a3 a4 b0 b1 b2 b3 b4 : Nat) : ∃ q, val5 (tm0 a0 a1 a2 a3 a4 b0 b1 b2 b3 b4) (tm1 a0 a1 a2 a3 a4 b0 b1 b2 b3 b4) (tm2 a0 a1 a2 a3 a4 b0 b1 b2 b3 b4) (tm3 a0 a1 a2 a3 a4 b0 b1 b2 b3 b4) (tm4 a0 a1 a2 a3 a4 b0 b1 b2 b3 b4) + q * p1305 = val5 a0 a1 a2 a3 a4 * val5 b0 b1 b2 b3 b4 := by
  refine ⟨val5 (a1 * b4 + a2 * b3 + a3 * b2 + a4 * b1) (a2 * b4 + a3 * b3 + a4 * b2) (a3 * b4 + a4 * b3) (a4 * b4) 0, ?_⟩
  rw [mul_val5, val5_mul a0 a1 a2 a3 a4 b0, val5_mul a0 a1 a2 a3 a4 b1, val5_mul a0 a1 a2 a3 a4 b2, val5_mul a0 a1 a2 a3 a4 b3, val5_mul a0 a1 a2 a3 a4 b4]
  unfold tm0 tm1 tm2 tm3 tm4
  generalize a0 * b0 = P00
  generalize a0 * b1 = P01
  generalize a0 * b2 = P02
  generalize a0 * b3 = P03
  generalize a0 * b4 = P04
  generalize a1 * b0 = P10
  generalize a1 * b1 = P11
  generalize a1 * b2 = P12
  generalize a1 * b3 = P13
  generalize a1 * b4 = P14
  generalize a2 * b0 = P20
  generalize a2 * b1 = P21
  generalize a2 * b2 = P22
  generalize a2 * b3 = P23
  generalize a2 * b4 = P24
  generalize a3 * b0 = P30
  generalize a3 * b1 = P31
  generalize a3 * b2 = P32
  generalize a3 * b3 = P33
  generalize a3 * b4 = P34
  generalize a4 * b0 = P40
  generalize a4 * b1 = P41
  generalize a4 * b2 = P42
  generalize a4 * b3 = P43
  generalize a4 * b4 = P44
  unfold val5 p1305
  omega

/-- twice carried: below 2^26 + 5 -/
theorem car2 {t0 t1 t2 t3 t4 : Nat} (h0 : t0 < 4611686018427387904) (h1 : t1 < 4611686018427387904) (h2 : t2 < 4611686018427387904) (h3 : t3 < 4611686018427387904) (h4 : t4 < 4611686018427387904) :
    ∃ c0 c1 c2 c3 c4 q : Nat, carriedL (carriedL [(t0 : Int), (t1 : Int), (t2 : Int), (t3 : Int), (t4 : Int)]) = nats [c0, c1, c2, c3, c4] ∧ c0 < 67108864 + 5 ∧ c1 < 67108864 ∧ c2 < 67108864 ∧ c3 < 67108864 ∧ c4 < 67108864 ∧
      val5 c0 c1 c2 c3 c4 + q * p1305 = val5 t0 t1 t2 t3 t4 := by
  have v1 := car_val t0 t1 t2 t3 t4
  have hc : carC t0 t1 t2 t3 t4 < 137438953472 := by unfold carC; omega
  rw [car_nat h0 h1 h2 h3 h4]
  unfold carN at v1 ⊢
  generalize carC t0 t1 t2 t3 t4 = c at *
  have m1 := Nat.mod_lt (t1 + t0 / 67108864) (show 67108864 > 0 by decide)
  have m2 := Nat.mod_lt (t2 + (t1 + t0 / 67108864) / 67108864) (show 67108864 > 0 by decide)
  have m3 := Nat.mod_lt (t3 + (t2 + (t1 + t0 / 67108864) / 67108864) / 67108864) (show 67108864 > 0 by decide)
  have m4 := Nat.mod_lt (t4 + (t3 + (t2 + (t1 + t0 / 67108864) / 67108864) / 67108864) / 67108864) (show 67108864 > 0 by decide)
  have m0 : t0 % 67108864 + 5 * c < 67108864 + 687194767360 := by have := Nat.mod_lt t0 (show 67108864 > 0 by decide); omega
  generalize t0 % 67108864 + 5 * c = u0 at *
  generalize (t1 + t0 / 67108864) % 67108864 = u1 at *
  generalize (t2 + (t1 + t0 / 67108864) / 67108864) % 67108864 = u2 at *
  generalize (t3 + (t2 + (t1 + t0 / 67108864) / 67108864) / 67108864) % 67108864 = u3 at *
  generalize (t4 + (t3 + (t2 + (t1 + t0 / 67108864) / 67108864) / 67108864) / 67108864) % 67108864 = u4 at *
  rw [val5_eq] at v1
  have v2 := car_val u0 u1 u2 u3 u4
  have hd : carC u0 u1 u2 u3 u4 ≤ 1 := by unfold carC; omega
  refine ⟨_, _, _, _, _, c + carC u0 u1 u2 u3 u4, car_nat (by omega) (by omega) (by omega) (by omega) (by omega), ?_, Nat.mod_lt _ (by decide), Nat.mod_lt _ (by decide), Nat.mod_lt _ (by decide), Nat.mod_lt _ (by decide), ?_⟩
  · have := Nat.mod_lt u0 (show 67108864 > 0 by decide); omega
  · unfold carN at v2
    rw [val5_eq] at v2
    rw [Nat.add_mul]; omega

/-- limbs behind a product -/
def Sml (a0 a1 a2 a3 a4 : Nat) : Prop := a0 ≤ 67108868 ∧ a1 < 67108864 ∧ a2 < 67108864 ∧ a3 < 67108864 ∧ a4 < 67108864

theorem times_nat {a0 a1 a2 a3 a4 b0 b1 b2 b3 b4 : Nat} (ha : Lim 268435456 a0 a1 a2 a3 a4) (hb : Lim 134217728 b0 b1 b2 b3 b4) :
    ∃ c0 c1 c2 c3 c4 q : Nat, timesL (nats [a0, a1, a2, a3, a4]) (nats [b0, b1, b2, b3, b4]) = nats [c0, c1, c2, c3, c4] ∧ Sml c0 c1 c2 c3 c4 ∧ val5 c0 c1 c2 c3 c4 + q * p1305 = val5 a0 a1 a2 a3 a4 * val5 b0 b1 b2 b3 b4 := by
  obtain ⟨e, g0, g1, g2, g3, g4⟩ := tm_nat ha hb
  have et := times_eq (a0 : Int) (a1 : Int) (a2 : Int) (a3 : Int) (a4 : Int) (b0 : Int) (b1 : Int) (b2 : Int) (b3 : Int) (b4 : Int)
  rw [e] at et
  obtain ⟨c0, c1, c2, c3, c4, q, e1, l0, l1, l2, l3, l4, v⟩ := car2 g0 g1 g2 g3 g4
  obtain ⟨q', v'⟩ := tm_val a0 a1 a2 a3 a4 b0 b1 b2 b3 b4
  refine ⟨c0, c1, c2, c3, c4, q + q', et.trans e1, ⟨by omega, by omega, by omega, by omega, by omega⟩, ?_⟩
  rw [Nat.add_mul]; omega

end Go.Proofs.Ytiaddnmloonhgaa

/- Bits and digits of numbers. -/
namespace Go.Eng
open Go

theorem valB_div {b : Nat} (hb : 0 < b) : ∀ {l : List Nat}, (∀ x ∈ l, x < b) → ∀ i, valB b l / b ^ i % b = l.getD i 0
  | [], _, i => by simp [valB]
  | x :: l, h, 0 => by
    have hx := h x (.head _)
    simp only [Nat.pow_zero, Nat.div_one, valB, List.getD_cons_zero]
    rw [Nat.add_mul_mod_self_left, Nat.mod_eq_of_lt hx]
  | x :: l, h, i + 1 => by
    have hx := h x (.head _)
    rw [valB, Nat.pow_succ, Nat.mul_comm _ b, ← Nat.div_div_eq_div_mul, Nat.add_mul_div_left _ _ hb, Nat.div_eq_of_lt hx, Nat.zero_add, List.getD_cons_succ]
    exact valB_div hb (fun y hy => h y (.tail _ hy)) i

theorem valB_byte_bit {l : List Nat} (h : ∀ x ∈ l, x < 256) (i : Nat) : valB 256 l / 2 ^ i % 2 = l.getD (i / 8) 0 / 2 ^ (i % 8) % 2 := by
  rw [← valB_div (by decide) h (i / 8)]
  have e : (2 : Nat) ^ i = 256 ^ (i / 8) * 2 ^ (i % 8) := by
    rw [show (256 : Nat) = 2 ^ 8 from rfl, ← Nat.pow_mul, ← Nat.pow_add, Nat.div_add_mod]
  rw [e, ← Nat.div_div_eq_div_mul]
  generalize valB 256 l / 256 ^ (i / 8) = n
  have hm : i % 8 < 8 := Nat.mod_lt _ (by decide)
  generalize i % 8 = j at hm
  have hj : (256 : Nat) = 2 ^ j * (2 * 2 ^ (7 - j)) := by
    rw [← Nat.pow_succ', ← Nat.pow_add, show j + (7 - j).succ = 8 by omega]
  rw [hj, Nat.mod_mul_right_div_self, Nat.mod_mul_right_mod]

theorem digs_getD (b : Nat) : ∀ (m n i : Nat), i < m → (digs b m n).getD i 0 = n / b ^ i % b
  | 0, _, _, h => by omega
  | m + 1, n, 0, _ => by simp [digs]
  | m + 1, n, i + 1, h => by
    rw [digs, List.getD_cons_succ, digs_getD b m _ i (by omega), Nat.div_div_eq_div_mul, ← Nat.pow_succ']

/-- a bit, out of digits of so many bits -/
theorem digs_bit {w m n : Nat} (hw : 0 < w) {j : Nat} (hj : j < w * m) : (digs (2 ^ w) m n).getD (j / w) 0 / 2 ^ (j % w) % 2 = n / 2 ^ j % 2 := by
  rw [digs_getD _ _ _ _ (Nat.div_lt_of_lt_mul hj)]
  have e : (2 : Nat) ^ j = (2 ^ w) ^ (j / w) * 2 ^ (j % w) := by
    rw [← Nat.pow_mul, ← Nat.pow_add, Nat.div_add_mod]
  rw [e, ← Nat.div_div_eq_div_mul]
  generalize n / (2 ^ w) ^ (j / w) = x
  have hm : j % w < w := Nat.mod_lt _ hw
  generalize j % w = i at hm
  have hi : (2 : Nat) ^ w = 2 ^ i * (2 * 2 ^ (w - 1 - i)) := by
    rw [← Nat.pow_succ', ← Nat.pow_add, show i + (w - 1 - i).succ = w by omega]
  rw [hi, Nat.mod_mul_right_div_self, Nat.mod_mul_right_mod]

/-- one bit more, above all that stand -/
theorem digs_set {w : Nat} (hw : 0 < w) : ∀ (m n i : Nat), n < 2 ^ i → i < w * m → digs (2 ^ w) m (n + 2 ^ i) = (digs (2 ^ w) m n).set (i / w) ((digs (2 ^ w) m n).getD (i / w) 0 + 2 ^ (i % w))
  | 0, _, _, _, h => by omega
  | m + 1, n, i, hn, hi => by
    have hp : 0 < 2 ^ w := Nat.two_pow_pos w
    by_cases h : i < w
    · have h1 : (2 : Nat) ^ i * 2 ≤ 2 ^ w := by rw [← Nat.pow_succ]; exact Nat.pow_le_pow_right (by decide) h
      rw [Nat.div_eq_of_lt h, Nat.mod_eq_of_lt h]
      simp only [digs, List.set_cons_zero, List.getD_cons_zero]
      rw [Nat.mod_eq_of_lt (show n + 2 ^ i < 2 ^ w by omega), Nat.mod_eq_of_lt (show n < 2 ^ w by omega), Nat.div_eq_of_lt (show n + 2 ^ i < 2 ^ w by omega), Nat.div_eq_of_lt (show n < 2 ^ w by omega)]
    · have hwi : w ≤ i := Nat.le_of_not_lt h
      have e : (2 : Nat) ^ i = 2 ^ (i - w) * 2 ^ w := by rw [← Nat.pow_add, show i - w + w = i by omega]
      have hd : i / w = (i - w) / w + 1 := by rw [Nat.div_eq_sub_div hw hwi]
      have hmd : i % w = (i - w) % w := by rw [Nat.mod_eq_sub_mod hwi]
      rw [hd, hmd]
      simp only [digs, List.set_cons_succ, List.getD_cons_succ]
      rw [e, Nat.add_mul_mod_self_right, Nat.add_mul_div_right _ _ hp]
      rw [digs_set hw m (n / 2 ^ w) (i - w) ?_ ?_]
      · exact Nat.div_lt_of_lt_mul (by rw [← Nat.pow_add, show w + (i - w) = i by omega]; exact hn)
      · have : w * (m + 1) = w * m + w := Nat.mul_succ w m
        omega

theorem mod_two_pow_succ (n i : Nat) : n % 2 ^ (i + 1) = n % 2 ^ i + (n / 2 ^ i % 2) * 2 ^ i := by
  rw [Nat.mod_pow_succ, Nat.mul_comm]

theorem nats_digs_bound {b m n : Nat} (hb : 0 < b) (i : Nat) : (digs b m n).getD i 0 < b := by
  rw [List.getD_eq_getElem?_getD]
  cases h : (digs b m n)[i]? with
  | none => exact hb
  | some x => exact digs_lt hb x (List.mem_of_getElem? h)

/-- sums of digits, carried -/
theorem digs_mod (b : Nat) : ∀ (m n : Nat), digs b m (n % b ^ m) = digs b m n
  | 0, _ => rfl
  | m + 1, n => by
    have e1 : n % b ^ (m + 1) % b = n % b := by rw [Nat.pow_succ, Nat.mod_mul_left_mod]
    have e2 : n % b ^ (m + 1) / b = n / b % b ^ m := by rw [Nat.pow_succ, Nat.mul_comm, Nat.mod_mul_right_div_self]
    rw [digs, digs, e1, e2, digs_mod b m]
end Go.Eng

/- Limbs of bytes; the whole; the digits of a tag: as numbers. -/
namespace Go.Proofs.Ytiaddnmloonhgaa
open Go Go.Eng
set_option maxRecDepth 100000

/-! ### limbs of bytes -/

theorem nats_bound {l : List Nat} {b : Nat} (h : ∀ x ∈ l, x < b) (hb : 0 < b) (i : Nat) : l.getD i 0 < b := by
  rw [List.getD_eq_getElem?_getD]
  cases hx : l[i]? with
  | none => exact hb
  | some x => exact h x (List.mem_of_getElem? hx)

theorem limbBit_nat {l : List Nat} (h : ∀ x ∈ l, x < 256) (i : Nat) : limbBit (nats l) i = decide (valB 256 l / 2 ^ i % 2 = 1) := by
  unfold limbBit
  have hb := nats_bound h (by decide) (i / 8)
  rw [nats_getD, shrN (k := .u8) (m := i % 8) (by show i % 8 ≤ 8; omega)]
  have e : andI .u8 ((l.getD (i / 8) 0 / 2 ^ (i % 8) : Nat) : Int) 1 = ((l.getD (i / 8) 0 / 2 ^ (i % 8) % 2 ^ 1 : Nat) : Int) :=
    maskN (k := .u8) (j := 1) rfl (Nat.lt_of_le_of_lt (Nat.div_le_self _ _) hb) (by decide)
  rw [e, valB_byte_bit h, Nat.pow_one]
  by_cases h2 : l.getD (i / 8) 0 / 2 ^ (i % 8) % 2 = 1
  · rw [h2]; rfl
  · have : l.getD (i / 8) 0 / 2 ^ (i % 8) % 2 = 0 := by omega
    rw [this]; rfl

theorem limbs_step_nat {l : List Nat} (h : ∀ x ∈ l, x < 256) {i : Nat} (hi : i < 130) :
    limbsStep (nats l) i (nats (digs 67108864 5 (valB 256 l % 2 ^ i))) = nats (digs 67108864 5 (valB 256 l % 2 ^ (i + 1))) := by
  unfold limbsStep
  rw [limbBit_nat h, show decide (i < 130) = true from decide_eq_true hi, Bool.true_and, mod_two_pow_succ]
  have hlt := Nat.mod_lt (valB 256 l) (Nat.two_pow_pos i)
  generalize valB 256 l % 2 ^ i = n at hlt ⊢
  by_cases hb : valB 256 l / 2 ^ i % 2 = 1
  · rw [hb, Nat.one_mul, decide_eq_true rfl, cond_true]
    have hs := digs_set (w := 26) (by decide) 5 n i hlt (by omega)
    rw [show (2 : Nat) ^ 26 = 67108864 from rfl] at hs
    rw [hs, ← nats_set]
    congr 1
    rw [nats_getD]
    have hd : (digs 67108864 5 n).getD (i / 26) 0 < 2 ^ (i % 26) := by
      rw [digs_getD _ _ _ _ (by omega)]
      have e : (2 : Nat) ^ i = 67108864 ^ (i / 26) * 2 ^ (i % 26) := by
        rw [show (67108864 : Nat) = 2 ^ 26 from rfl, ← Nat.pow_mul, ← Nat.pow_add, Nat.div_add_mod]
      refine Nat.lt_of_le_of_lt (Nat.mod_le _ _) ?_
      exact Nat.div_lt_of_lt_mul (by rw [← e]; exact hlt)
    have hm : i % 26 < 26 := Nat.mod_lt _ (by decide)
    generalize (digs 67108864 5 n).getD (i / 26) 0 = x at hd ⊢
    generalize i % 26 = j at hd hm ⊢
    have hp : (2 : Nat) ^ j ≤ 2 ^ 25 := Nat.pow_le_pow_right (by decide) (by omega)
    have e1 : shlI .u64 1 (j : Int) = ((2 ^ j : Nat) : Int) := by
      have := shlN (k := .u64) rfl (m := j) (by show j ≤ 64; omega) 1
      rw [Nat.one_mul, Nat.mod_eq_of_lt (Nat.lt_of_le_of_lt hp (by decide))] at this
      exact this
    rw [e1, orN (k := .u64) rfl (Nat.lt_of_lt_of_le hd (Nat.le_trans hp (by decide))) (Nat.lt_of_le_of_lt hp (by decide))]
    have := or_addN' (a := 1) (b := x) (j := j) hd
    rw [Nat.one_mul] at this
    rw [this]
  · have h0 : valB 256 l / 2 ^ i % 2 = 0 := by omega
    rw [h0, Nat.zero_mul, Nat.add_zero, decide_eq_false (by decide), cond_false]

theorem limbsGo_nat {l : List Nat} (h : ∀ x ∈ l, x < 256) : ∀ (m i : Nat), i + m = 130 → limbsGo (nats l) m i (nats (digs 67108864 5 (valB 256 l % 2 ^ i))) = nats (digs 67108864 5 (valB 256 l % 2 ^ 130))
  | 0, i, hm => by rw [show i = 130 by omega]; rfl
  | m + 1, i, hm => by
    rw [limbsGo, limbs_step_nat h (by omega)]
    exact limbsGo_nat h m (i + 1) (by omega)

theorem limbsGo_split (b : List Int) : ∀ (m k i : Nat) (n : List Int), limbsGo b (m + k) i n = limbsGo b k (i + m) (limbsGo b m i n)
  | 0, k, i, n => by rw [Nat.zero_add]; rfl
  | m + 1, k, i, n => by
    rw [show m + 1 + k = (m + k) + 1 by omega, limbsGo, limbsGo_split b m k (i + 1), limbsGo, show i + 1 + m = i + (m + 1) by omega]

theorem limbsGo_rest (b : List Int) : ∀ (m i : Nat) (n : List Int), 130 ≤ i → limbsGo b m i n = n
  | 0, _, _, _ => rfl
  | m + 1, i, n, h => by
    have : limbsStep b i n = n := by
      unfold limbsStep
      rw [show decide (i < 130) = false from decide_eq_false (by omega)]; rfl
    rw [limbsGo, this]
    exact limbsGo_rest b m (i + 1) n (by omega)

theorem limbs_nat {l : List Nat} (h : ∀ x ∈ l, x < 256) : limbsL (nats l) = nats (digs 67108864 5 (valB 256 l % 2 ^ 130)) := by
  unfold limbsL
  rw [show (136 : Nat) = 130 + 6 from rfl, limbsGo_split, limbsGo_rest _ _ _ _ (by decide)]
  have := limbsGo_nat h 130 0 rfl
  rw [show valB 256 l % 2 ^ 0 = 0 from Nat.mod_one _] at this
  exact this

/-! ### the whole -/

def wholeOf (D : List Int) : Option (Int × List Int × List Int) :=
  f63_0_lp 6 (fun _ y2 _ y4 _ y6 => some (y2, y4, y6)) 6 0 0 D (List.replicate 5 0) (D.set 0 (IntKind.u64.wrap (D.getD 0 0 + 5)))

theorem whole_of (a : List Int) : wholeRun a = wholeOf (carriedL (carriedL a)) := by kernel_rfl

def chainI (e0 a1 a2 a3 a4 : Int) : Int × List Int :=
  let s0 := IntKind.u64.wrap (e0 + 0)
  let s1 := IntKind.u64.wrap (a1 + shrI .u64 s0 26)
  let s2 := IntKind.u64.wrap (a2 + shrI .u64 s1 26)
  let s3 := IntKind.u64.wrap (a3 + shrI .u64 s2 26)
  let s4 := IntKind.u64.wrap (a4 + shrI .u64 s3 26)
  (shrI .u64 s4 26, [andI .u64 s0 67108863, andI .u64 s1 67108863, andI .u64 s2 67108863, andI .u64 s3 67108863, andI .u64 s4 67108863])

theorem wholeOf_eq (a0 a1 a2 a3 a4 : Int) : wholeOf [a0, a1, a2, a3, a4] = some ((chainI (IntKind.u64.wrap (a0 + 5)) a1 a2 a3 a4).1, [a0, a1, a2, a3, a4], (chainI (IntKind.u64.wrap (a0 + 5)) a1 a2 a3 a4).2) := by kernel_rfl

theorem chain_nat {a0 a1 a2 a3 a4 : Nat} (h0 : a0 < 4611686018427387904) (h1 : a1 < 4611686018427387904) (h2 : a2 < 4611686018427387904) (h3 : a3 < 4611686018427387904) (h4 : a4 < 4611686018427387904) :
    chainI (a0 : Int) (a1 : Int) (a2 : Int) (a3 : Int) (a4 : Int) = ((carC a0 a1 a2 a3 a4 : Int), nats [a0 % 67108864, (a1 + a0 / 67108864) % 67108864, (a2 + (a1 + a0 / 67108864) / 67108864) % 67108864,
    (a3 + (a2 + (a1 + a0 / 67108864) / 67108864) / 67108864) % 67108864, (a4 + (a3 + (a2 + (a1 + a0 / 67108864) / 67108864) / 67108864) / 67108864) % 67108864]) := by
  unfold chainI
  have e0 : IntKind.u64.wrap ((a0 : Int) + 0) = (a0 : Int) := by rw [Int.add_zero]; exact w64 (by omega)
  dsimp only
  simp only [e0, shr26]
  have e1 : IntKind.u64.wrap ((a1 : Int) + ((a0 / 67108864 : Nat) : Int)) = ((a1 + a0 / 67108864 : Nat) : Int) := w64 (n := a1 + a0 / 67108864) (by omega)
  simp only [e1, shr26]
  generalize hs1 : a1 + a0 / 67108864 = s1
  have e2 : IntKind.u64.wrap ((a2 : Int) + ((s1 / 67108864 : Nat) : Int)) = ((a2 + s1 / 67108864 : Nat) : Int) := w64 (n := a2 + s1 / 67108864) (by omega)
  simp only [e2, shr26]
  generalize hs2 : a2 + s1 / 67108864 = s2
  have e3 : IntKind.u64.wrap ((a3 : Int) + ((s2 / 67108864 : Nat) : Int)) = ((a3 + s2 / 67108864 : Nat) : Int) := w64 (n := a3 + s2 / 67108864) (by omega)
  simp only [e3, shr26]
  generalize hs3 : a3 + s2 / 67108864 = s3
  have e4 : IntKind.u64.wrap ((a4 : Int) + ((s3 / 67108864 : Nat) : Int)) = ((a4 + s3 / 67108864 : Nat) : Int) := w64 (n := a4 + s3 / 67108864) (by omega)
  simp only [e4, shr26]
  generalize hs4 : a4 + s3 / 67108864 = s4
  rw [and26 (by omega), and26 (by omega), and26 (by omega), and26 (by omega), and26 (by omega)]
  unfold carC
  rw [hs1, hs2, hs3, hs4]
  rfl

/-- once carried, limbs that are nearly small are small -/
theorem car_small {c0 c1 c2 c3 c4 : Nat} (h0 : c0 ≤ 67108868) (h1 : c1 < 67108864) (h2 : c2 < 67108864) (h3 : c3 < 67108864) (h4 : c4 < 67108864) :
    carC c0 c1 c2 c3 c4 ≤ 1 ∧ c0 % 67108864 + 5 * carC c0 c1 c2 c3 c4 < 67108864 := by
  unfold carC
  have a1 : c0 / 67108864 ≤ 1 := by omega
  have a0 : c0 / 67108864 = 0 ∨ c0 % 67108864 ≤ 4 := by omega
  have a2 := Nat.mod_lt c0 (show 67108864 > 0 by decide)
  generalize c0 / 67108864 = q0 at *
  generalize c0 % 67108864 = r0 at *
  have b1 : (c1 + q0) / 67108864 ≤ q0 := by omega
  generalize (c1 + q0) / 67108864 = q1 at *
  have b2 : (c2 + q1) / 67108864 ≤ q1 := by omega
  generalize (c2 + q1) / 67108864 = q2 at *
  have b3 : (c3 + q2) / 67108864 ≤ q2 := by omega
  generalize (c3 + q2) / 67108864 = q3 at *
  have b4 : (c4 + q3) / 67108864 ≤ q3 := by omega
  generalize (c4 + q3) / 67108864 = q4 at *
  omega

/-- small limbs stay -/
theorem car_none {c0 c1 c2 c3 c4 : Nat} (h0 : c0 < 67108864) (h1 : c1 < 67108864) (h2 : c2 < 67108864) (h3 : c3 < 67108864) (h4 : c4 < 67108864) : carN c0 c1 c2 c3 c4 = [c0, c1, c2, c3, c4] := by
  unfold carN carC
  rw [Nat.div_eq_of_lt h0, Nat.add_zero, Nat.div_eq_of_lt h1, Nat.add_zero, Nat.div_eq_of_lt h2, Nat.add_zero, Nat.div_eq_of_lt h3, Nat.add_zero, Nat.div_eq_of_lt h4,
    Nat.mod_eq_of_lt h0, Nat.mod_eq_of_lt h1, Nat.mod_eq_of_lt h2, Nat.mod_eq_of_lt h3, Nat.mod_eq_of_lt h4, Nat.mul_zero, Nat.add_zero]

theorem five_lt {d0 d1 d2 d3 d4 : Nat} (g0 : d0 < 67108864) (g1 : d1 < 67108864) (g2 : d2 < 67108864) (g3 : d3 < 67108864) (g4 : d4 < 67108864) : ∀ x ∈ [d0, d1, d2, d3, d4], x < 67108864 := by
  intro x hx
  simp only [List.mem_cons, List.not_mem_nil, or_false] at hx
  rcases hx with rfl | rfl | rfl | rfl | rfl <;> assumption

theorem digs_five {d0 d1 d2 d3 d4 : Nat} (g0 : d0 < 67108864) (g1 : d1 < 67108864) (g2 : d2 < 67108864) (g3 : d3 < 67108864) (g4 : d4 < 67108864) : digs 67108864 5 (val5 d0 d1 d2 d3 d4) = [d0, d1, d2, d3, d4] := by
  rw [← val5_eq]
  exact digs_of (by decide) (five_lt g0 g1 g2 g3 g4)

theorem val5_lt {d0 d1 d2 d3 d4 : Nat} (g0 : d0 < 67108864) (g1 : d1 < 67108864) (g2 : d2 < 67108864) (g3 : d3 < 67108864) (g4 : d4 < 67108864) : val5 d0 d1 d2 d3 d4 < 1361129467683753853853498429727072845824 := by
  rw [← val5_eq]
  have h := valB_lt (b := 67108864) (by decide) (five_lt g0 g1 g2 g3 g4)
  rw [show [d0, d1, d2, d3, d4].length = 5 from rfl, show (67108864 : Nat) ^ 5 = 1361129467683753853853498429727072845824 by decide] at h
  exact h

theorem whole_nat {c0 c1 c2 c3 c4 : Nat} (h0 : c0 ≤ 67108868) (h1 : c1 < 67108864) (h2 : c2 < 67108864) (h3 : c3 < 67108864) (h4 : c4 < 67108864) :
    wholeL (nats [c0, c1, c2, c3, c4]) = nats (digs 67108864 5 (val5 c0 c1 c2 c3 c4 % p1305)) := by
  have key : ∃ d0 d1 d2 d3 d4 : Nat, carriedL (nats [c0, c1, c2, c3, c4]) = nats [d0, d1, d2, d3, d4] ∧ d0 < 67108864 ∧ d1 < 67108864 ∧ d2 < 67108864 ∧ d3 < 67108864 ∧ d4 < 67108864 ∧ val5 d0 d1 d2 d3 d4 % p1305 = val5 c0 c1 c2 c3 c4 % p1305 := by
    have hv := car_val c0 c1 c2 c3 c4
    obtain ⟨hc, hs⟩ := car_small h0 h1 h2 h3 h4
    have en : carriedL (nats [c0, c1, c2, c3, c4]) = nats (carN c0 c1 c2 c3 c4) := car_nat (by omega) (by omega) (by omega) (by omega) (by omega)
    rw [en]
    unfold carN at hv ⊢
    have m1 := Nat.mod_lt (c1 + c0 / 67108864) (show 67108864 > 0 by decide)
    have m2 := Nat.mod_lt (c2 + (c1 + c0 / 67108864) / 67108864) (show 67108864 > 0 by decide)
    have m3 := Nat.mod_lt (c3 + (c2 + (c1 + c0 / 67108864) / 67108864) / 67108864) (show 67108864 > 0 by decide)
    have m4 := Nat.mod_lt (c4 + (c3 + (c2 + (c1 + c0 / 67108864) / 67108864) / 67108864) / 67108864) (show 67108864 > 0 by decide)
    generalize c0 % 67108864 + 5 * carC c0 c1 c2 c3 c4 = u0 at *
    generalize (c1 + c0 / 67108864) % 67108864 = u1 at *
    generalize (c2 + (c1 + c0 / 67108864) / 67108864) % 67108864 = u2 at *
    generalize (c3 + (c2 + (c1 + c0 / 67108864) / 67108864) / 67108864) % 67108864 = u3 at *
    generalize (c4 + (c3 + (c2 + (c1 + c0 / 67108864) / 67108864) / 67108864) / 67108864) % 67108864 = u4 at *
    refine ⟨u0, u1, u2, u3, u4, rfl, hs, m1, m2, m3, m4, ?_⟩
    rw [val5_eq] at hv
    rw [← hv, Nat.add_mul_mod_self_right]
  obtain ⟨d0, d1, d2, d3, d4, e, g0, g1, g2, g3, g4, hv⟩ := key
  have e2 : carriedL (nats [d0, d1, d2, d3, d4]) = nats [d0, d1, d2, d3, d4] :=
    (car_nat (by omega) (by omega) (by omega) (by omega) (by omega)).trans (by rw [car_none g0 g1 g2 g3 g4])
  have hrun := whole_of (nats [c0, c1, c2, c3, c4])
  rw [e, e2] at hrun
  rw [show nats [d0, d1, d2, d3, d4] = [(d0 : Int), (d1 : Int), (d2 : Int), (d3 : Int), (d4 : Int)] from rfl, wholeOf_eq] at hrun
  rw [show IntKind.u64.wrap ((d0 : Int) + 5) = ((d0 + 5 : Nat) : Int) from w64 (n := d0 + 5) (by omega), chain_nat (by omega) (by omega) (by omega) (by omega) (by omega)] at hrun
  unfold wholeL
  rw [hrun, ← hv]
  clear hrun e e2 hv h0 h1 h2 h3 h4
  have hv2 := car_val (d0 + 5) d1 d2 d3 d4
  have hlt := val5_lt g0 g1 g2 g3 g4
  have hv5 : val5 (d0 + 5) d1 d2 d3 d4 = val5 d0 d1 d2 d3 d4 + 5 := by unfold val5; omega
  rw [hv5] at hv2
  unfold carN at hv2
  have m0 := Nat.mod_lt (d0 + 5) (show 67108864 > 0 by decide)
  have m1 := Nat.mod_lt (d1 + (d0 + 5) / 67108864) (show 67108864 > 0 by decide)
  have m2 := Nat.mod_lt (d2 + (d1 + (d0 + 5) / 67108864) / 67108864) (show 67108864 > 0 by decide)
  have m3 := Nat.mod_lt (d3 + (d2 + (d1 + (d0 + 5) / 67108864) / 67108864) / 67108864) (show 67108864 > 0 by decide)
  have m4 := Nat.mod_lt (d4 + (d3 + (d2 + (d1 + (d0 + 5) / 67108864) / 67108864) / 67108864) / 67108864) (show 67108864 > 0 by decide)
  simp only
  generalize carC (d0 + 5) d1 d2 d3 d4 = c at *
  generalize (d1 + (d0 + 5) / 67108864) % 67108864 = u1 at *
  generalize (d2 + (d1 + (d0 + 5) / 67108864) / 67108864) % 67108864 = u2 at *
  generalize (d3 + (d2 + (d1 + (d0 + 5) / 67108864) / 67108864) / 67108864) % 67108864 = u3 at *
  generalize (d4 + (d3 + (d2 + (d1 + (d0 + 5) / 67108864) / 67108864) / 67108864) / 67108864) % 67108864 = u4 at *
  generalize (d0 + 5) % 67108864 = u0 at *
  have hu := val5_lt m0 m1 m2 m3 m4
  have hu5 : val5 (u0 + 5 * c) u1 u2 u3 u4 = val5 u0 u1 u2 u3 u4 + 5 * c := by unfold val5; omega
  rw [val5_eq, hu5] at hv2
  have dd := digs_five g0 g1 g2 g3 g4
  have du := digs_five m0 m1 m2 m3 m4
  generalize val5 d0 d1 d2 d3 d4 = V at *
  generalize val5 u0 u1 u2 u3 u4 = U at *
  unfold p1305 at *
  by_cases h : c = 0
  · rw [h, show decide (((0 : Nat) : Int) > 0) = false from rfl, cond_false, Nat.mod_eq_of_lt (by omega), dd]
    rfl
  · have h1 : c = 1 := by omega
    rw [h1, show decide (((1 : Nat) : Int) > 0) = true from rfl, cond_true, Nat.mod_eq_sub_mod (by omega), Nat.mod_eq_of_lt (by omega)]
    rw [show V - 1361129467683753853853498429727072845819 = U by omega, du]

/-! ### the digits of a tag -/

theorem bitsGo_nat {X base : Nat} (hX : base + 8 ≤ 130) : ∀ (m j : Nat), j + m = 8 → bitsGo (nats (digs 67108864 5 X)) base m j ((X / 2 ^ base % 2 ^ j : Nat) : Int) = ((X / 2 ^ base % 256 : Nat) : Int)
  | 0, j, h => by rw [show j = 8 by omega]; rfl
  | m + 1, j, h => by
    have step : orI .u64 ((X / 2 ^ base % 2 ^ j : Nat) : Int) (shlI .u64 (andI .u64 (shrI .u64 ((nats (digs 67108864 5 X)).getD ((base + j) / 26) 0) (((base + j) % 26 : Nat) : Int)) 1) (j : Int)) = ((X / 2 ^ base % 2 ^ (j + 1) : Nat) : Int) := by
      have hb := nats_digs_bound (b := 67108864) (m := 5) (n := X) (by decide) ((base + j) / 26)
      have hbit := digs_bit (w := 26) (m := 5) (n := X) (by decide) (j := base + j) (by omega)
      rw [show (2 : Nat) ^ 26 = 67108864 from rfl] at hbit
      rw [nats_getD, shrN (k := .u64) (m := (base + j) % 26) (by show _ ≤ 64; omega)]
      have e1 : andI .u64 (((digs 67108864 5 X).getD ((base + j) / 26) 0 / 2 ^ ((base + j) % 26) : Nat) : Int) 1 = (((digs 67108864 5 X).getD ((base + j) / 26) 0 / 2 ^ ((base + j) % 26) % 2 ^ 1 : Nat) : Int) :=
        maskN (k := .u64) (j := 1) rfl (Nat.lt_of_le_of_lt (Nat.div_le_self _ _) (Nat.lt_trans hb (by decide))) (by decide)
      rw [e1, Nat.pow_one, hbit, mod_two_pow_succ, Nat.div_div_eq_div_mul, ← Nat.pow_add]
      have hlt := Nat.mod_lt (X / 2 ^ base) (Nat.two_pow_pos j)
      have hj : (2 : Nat) ^ j ≤ 2 ^ 7 := Nat.pow_le_pow_right (by decide) (by omega)
      have hbb := Nat.mod_lt (X / 2 ^ (base + j)) (show 2 > 0 by decide)
      generalize X / 2 ^ base % 2 ^ j = n at hlt ⊢
      generalize X / 2 ^ (base + j) % 2 = t at hbb ⊢
      rw [shlN (k := .u64) rfl (m := j) (by show j ≤ 64; omega)]
      have ht : t * 2 ^ j ≤ 1 * 2 ^ 7 := Nat.mul_le_mul (by omega) hj
      rw [Nat.mod_eq_of_lt (Nat.lt_of_le_of_lt ht (by decide))]
      rw [orN (k := .u64) rfl (Nat.lt_of_lt_of_le hlt (Nat.le_trans hj (by decide))) (Nat.lt_of_le_of_lt ht (by decide)), or_addN' hlt]
    rw [bitsGo, step]
    exact bitsGo_nat hX m (j + 1) (by omega)

theorem digGo_nat {X : Nat} {key : List Nat} (hk : ∀ x ∈ key, x < 256) : ∀ (m i c : Nat), i + m ≤ 16 → c ≤ 1 →
    digGo (nats key) (nats (digs 67108864 5 X)) m i (c : Int) = nats (digs 256 m (X / 2 ^ (8 * i) + valB 256 (key.drop (16 + i)) + c))
  | 0, _, _, _, _ => rfl
  | m + 1, i, c, h, hc => by
    have hb := bitsGo_nat (X := X) (base := 8 * i) (by omega) 8 0 rfl
    rw [Nat.pow_zero, Nat.mod_one] at hb
    have hkb := nats_bound hk (by decide) (16 + i)
    have hd : valB 256 (key.drop (16 + i)) = key.getD (16 + i) 0 + 256 * valB 256 (key.drop (16 + (i + 1))) := by
      by_cases hl : 16 + i < key.length
      · rw [List.drop_eq_getElem_cons hl, valB, List.getD_eq_getElem?_getD, List.getElem?_eq_getElem hl]; rfl
      · rw [List.drop_of_length_le (by omega), List.drop_of_length_le (by omega), List.getD_eq_getElem?_getD, List.getElem?_eq_none (by omega)]; rfl
    have hxm := Nat.mod_lt (X / 2 ^ (8 * i)) (show 256 > 0 by decide)
    have hxd : X / 2 ^ (8 * (i + 1)) = X / 2 ^ (8 * i) / 256 := by
      rw [show 8 * (i + 1) = 8 * i + 8 by omega, Nat.pow_add, Nat.div_div_eq_div_mul]
    rw [digGo]
    rw [show (0 : Int) = ((0 : Nat) : Int) from rfl, hb, ← show (0 : Int) = ((0 : Nat) : Int) from rfl, nats_getD, w64 (n := key.getD (16 + i) 0) (by omega)]
    rw [show IntKind.u64.wrap (((X / 2 ^ (8 * i) % 256 : Nat) : Int) + ((key.getD (16 + i) 0 : Nat) : Int)) = ((X / 2 ^ (8 * i) % 256 + key.getD (16 + i) 0 : Nat) : Int) from w64 (n := X / 2 ^ (8 * i) % 256 + key.getD (16 + i) 0) (by omega)]
    rw [show IntKind.u64.wrap ((c : Int) + ((X / 2 ^ (8 * i) % 256 + key.getD (16 + i) 0 : Nat) : Int)) = ((c + (X / 2 ^ (8 * i) % 256 + key.getD (16 + i) 0) : Nat) : Int) from w64 (n := c + (X / 2 ^ (8 * i) % 256 + key.getD (16 + i) 0)) (by omega)]
    rw [wm8, show shrI .u64 ((c + (X / 2 ^ (8 * i) % 256 + key.getD (16 + i) 0) : Nat) : Int) 8 = (((c + (X / 2 ^ (8 * i) % 256 + key.getD (16 + i) 0)) / 2 ^ 8 : Nat) : Int) from shrN (k := .u64) (m := 8) (by decide) _]
    rw [digGo_nat hk m (i + 1) _ (by omega) (by omega), digs, hxd, hd]
    generalize X / 2 ^ (8 * i) = Y at *
    generalize key.getD (16 + i) 0 = z at *
    generalize valB 256 (key.drop (16 + (i + 1))) = V
    rw [show (2 : Nat) ^ 8 = 256 from rfl]
    rw [show (c + (Y % 256 + z)) % 256 = (Y + (z + 256 * V) + c) % 256 by omega, show Y / 256 + V + (c + (Y % 256 + z)) / 256 = (Y + (z + 256 * V) + c) / 256 by omega]
    rfl
end Go.Proofs.Ytiaddnmloonhgaa

/- The tag as a number: a polynomial modulo 2^130 - 5, and what is added. -/
namespace Go.Proofs.Ytiaddnmloonhgaa
open Go Go.Eng
set_option maxRecDepth 100000

/-! ### a piece -/

/-- the number of a piece: its bytes and a one behind -/
def pv (c : List Nat) : Nat := valB 256 c + 256 ^ c.length

theorem valB_zeros (b : Nat) : ∀ n, valB b (List.replicate n 0) = 0
  | 0 => rfl
  | n + 1 => by rw [List.replicate_succ, valB, valB_zeros b n]; simp

theorem nats_append (a b : List Nat) : nats (a ++ b) = nats a ++ nats b := by simp [nats]
theorem nats_replicate (n x : Nat) : nats (List.replicate n x) = List.replicate n (x : Int) := by simp [nats]
theorem nats_take (l : List Nat) (n : Nat) : (nats l).take n = nats (l.take n) := by simp [nats, List.map_take]
theorem nats_drop (l : List Nat) (n : Nat) : (nats l).drop n = nats (l.drop n) := by simp [nats, List.map_drop]

theorem piece_nat {c : List Nat} (hc : c.length ≤ 16) : pieceL (nats c) = nats (c ++ 1 :: List.replicate (16 - c.length) 0) := by
  unfold pieceL
  rw [nats_length]
  have e : (List.replicate 17 (0 : Int)).drop c.length = nats (0 :: List.replicate (16 - c.length) 0) := by
    rw [List.drop_replicate, show 17 - c.length = (16 - c.length) + 1 by omega, List.replicate_succ]
    simp [nats]
  rw [e, ← nats_append, show (1 : Int) = ((1 : Nat) : Int) from rfl, nats_set]
  congr 1
  rw [List.set_append_right _ _ (Nat.le_refl _), Nat.sub_self, List.set_cons_zero]

theorem piece_val (c : List Nat) : valB 256 (c ++ 1 :: List.replicate (16 - c.length) 0) = pv c := by
  rw [valB_append, valB, valB_zeros]; simp [pv]

theorem piece_lt {c : List Nat} (h : ∀ x ∈ c, x < 256) : ∀ x ∈ c ++ 1 :: List.replicate (16 - c.length) 0, x < 256 := by
  intro x hx
  rcases List.mem_append.1 hx with hx | hx
  · exact h x hx
  · rcases List.mem_cons.1 hx with e | hx
    · omega
    · have := List.eq_of_mem_replicate hx; omega

theorem pv_lt {c : List Nat} (h : ∀ x ∈ c, x < 256) (hc : c.length ≤ 16) : pv c < 2 ^ 130 := by
  have h1 := valB_lt (by decide) h
  have h2 : 256 ^ c.length ≤ 256 ^ 16 := Nat.pow_le_pow_right (by decide) hc
  unfold pv
  have e : (256 : Nat) ^ 16 + 256 ^ 16 < 2 ^ 130 := by decide
  omega

theorem limbs_piece {c : List Nat} (h : ∀ x ∈ c, x < 256) (hc : c.length ≤ 16) : limbsL (pieceL (nats c)) = nats (digs 67108864 5 (pv c)) := by
  rw [piece_nat hc, limbs_nat (piece_lt h), piece_val, Nat.mod_eq_of_lt (pv_lt h hc)]

/-! ### the sum -/

theorem addL_eq (a0 a1 a2 a3 a4 : Int) (p : List Int) : addL [a0, a1, a2, a3, a4] p = [IntKind.u64.wrap (a0 + p.getD 0 0), IntKind.u64.wrap (a1 + p.getD 1 0), IntKind.u64.wrap (a2 + p.getD 2 0), IntKind.u64.wrap (a3 + p.getD 3 0), IntKind.u64.wrap (a4 + p.getD 4 0)] := by kernel_rfl

theorem add_nat {a0 a1 a2 a3 a4 : Nat} (ha : Sml a0 a1 a2 a3 a4) (X : Nat) (hX : X < 2 ^ 130) :
    ∃ b0 b1 b2 b3 b4 : Nat, addL (nats [a0, a1, a2, a3, a4]) (nats (digs 67108864 5 X)) = nats [b0, b1, b2, b3, b4] ∧ Lim 268435456 b0 b1 b2 b3 b4 ∧ val5 b0 b1 b2 b3 b4 = val5 a0 a1 a2 a3 a4 + X := by
  obtain ⟨h0, h1, h2, h3, h4⟩ := ha
  have hv := digs_val 67108864 5 X
  rw [Nat.mod_eq_of_lt hX] at hv
  have e : digs 67108864 5 X = [X % 67108864, X / 67108864 % 67108864, X / 67108864 / 67108864 % 67108864, X / 67108864 / 67108864 / 67108864 % 67108864, X / 67108864 / 67108864 / 67108864 / 67108864 % 67108864] := rfl
  rw [e] at hv ⊢
  have m0 := Nat.mod_lt X (show 67108864 > 0 by decide)
  have m1 := Nat.mod_lt (X / 67108864) (show 67108864 > 0 by decide)
  have m2 := Nat.mod_lt (X / 67108864 / 67108864) (show 67108864 > 0 by decide)
  have m3 := Nat.mod_lt (X / 67108864 / 67108864 / 67108864) (show 67108864 > 0 by decide)
  have m4 := Nat.mod_lt (X / 67108864 / 67108864 / 67108864 / 67108864) (show 67108864 > 0 by decide)
  rw [val5_eq] at hv
  generalize X % 67108864 = x0 at *
  generalize X / 67108864 % 67108864 = x1 at *
  generalize X / 67108864 / 67108864 % 67108864 = x2 at *
  generalize X / 67108864 / 67108864 / 67108864 % 67108864 = x3 at *
  generalize X / 67108864 / 67108864 / 67108864 / 67108864 % 67108864 = x4 at *
  clear e
  refine ⟨a0 + x0, a1 + x1, a2 + x2, a3 + x3, a4 + x4, ?_, ⟨by omega, by omega, by omega, by omega, by omega⟩, by rw [← hv]; unfold val5; omega⟩
  have := addL_eq a0 a1 a2 a3 a4 (nats [x0, x1, x2, x3, x4])
  refine this.trans ?_
  show [IntKind.u64.wrap ((a0 + x0 : Nat) : Int), IntKind.u64.wrap ((a1 + x1 : Nat) : Int), IntKind.u64.wrap ((a2 + x2 : Nat) : Int), IntKind.u64.wrap ((a3 + x3 : Nat) : Int), IntKind.u64.wrap ((a4 + x4 : Nat) : Int)] = _
  rw [w64 (by omega), w64 (by omega), w64 (by omega), w64 (by omega), w64 (by omega)]
  rfl

/-! ### the polynomial -/

/-- Horner, piece by piece -/
def polyGo (R : Nat) (l : List Nat) : Nat → Nat → Nat → Nat
  | 0, _, acc => acc
  | m + 1, i, acc => polyGo R l m (i + 16) ((acc + pv ((l.drop i).take 16)) * R)

theorem mod_of {a b q p : Nat} (h : a + q * p = b) : a % p = b % p := by rw [← h, Nat.add_mul_mod_self_right]

theorem polyGo_mod (p R : Nat) (l : List Nat) : ∀ (m i a b : Nat), a % p = b % p → polyGo R l m i a % p = polyGo R l m i b % p
  | 0, _, _, _, h => h
  | m + 1, i, a, b, h => by
    refine polyGo_mod p R l m (i + 16) _ _ ?_
    have e : (a + pv ((l.drop i).take 16)) % p = (b + pv ((l.drop i).take 16)) % p := by rw [Nat.add_mod, h, ← Nat.add_mod]
    rw [Nat.mul_mod, e, ← Nat.mul_mod]

theorem macGo_nat {l : List Nat} (hl : ∀ x ∈ l, x < 256) {r0 r1 r2 r3 r4 : Nat} (hr : Lim 134217728 r0 r1 r2 r3 r4) :
    ∀ (m i : Nat) (a0 a1 a2 a3 a4 : Nat), Sml a0 a1 a2 a3 a4 → ∃ b0 b1 b2 b3 b4 : Nat, macGo (nats [r0, r1, r2, r3, r4]) (nats l) m i (nats [a0, a1, a2, a3, a4]) = nats [b0, b1, b2, b3, b4] ∧ Sml b0 b1 b2 b3 b4 ∧
      val5 b0 b1 b2 b3 b4 % p1305 = polyGo (val5 r0 r1 r2 r3 r4) l m i (val5 a0 a1 a2 a3 a4) % p1305
  | 0, i, a0, a1, a2, a3, a4, h => ⟨a0, a1, a2, a3, a4, rfl, h, rfl⟩
  | m + 1, i, a0, a1, a2, a3, a4, h => by
    have hc : ((l.drop i).take 16).length ≤ 16 := List.length_take_le _ _
    have hb : ∀ x ∈ (l.drop i).take 16, x < 256 := fun x hx => hl x (List.mem_of_mem_drop (List.mem_of_mem_take hx))
    obtain ⟨c0, c1, c2, c3, c4, e1, l1, v1⟩ := add_nat h (pv ((l.drop i).take 16)) (pv_lt hb hc)
    obtain ⟨d0, d1, d2, d3, d4, q, e2, l2, v2⟩ := times_nat l1 hr
    obtain ⟨b0, b1, b2, b3, b4, e3, l3, v3⟩ := macGo_nat hl hr m (i + 16) d0 d1 d2 d3 d4 l2
    refine ⟨b0, b1, b2, b3, b4, ?_, l3, ?_⟩
    · rw [macGo, nats_drop, nats_take, limbs_piece hb hc, e1, e2, e3]
    · rw [v3, polyGo]
      refine polyGo_mod _ _ _ _ _ _ _ ?_
      rw [mod_of v2, v1]

/-! ### the key -/

def setAndN (x : List Nat) (i m : Nat) : List Nat := x.set i (x.getD i 0 &&& m)
def clampN (x : List Nat) : List Nat := setAndN (setAndN (setAndN (setAndN (setAndN (setAndN (setAndN x 3 15) 7 15) 11 15) 15 15) 4 252) 8 252) 12 252

theorem setAnd_nat {x : List Nat} (h : ∀ y ∈ x, y < 256) {i m : Nat} (hm : m < 256) : setAnd (nats x) i (m : Int) = nats (setAndN x i m) ∧ ∀ y ∈ setAndN x i m, y < 256 := by
  have hb := nats_bound h (by decide) i
  refine ⟨?_, ?_⟩
  · unfold setAnd setAndN
    rw [nats_getD, andN (k := .u8) rfl hb hm, nats_set]
  · intro y hy
    rcases List.mem_or_eq_of_mem_set hy with hy | e
    · exact h y hy
    · subst e; exact Nat.lt_of_le_of_lt Nat.and_le_left hb

theorem clamp_nat {x : List Nat} (h : ∀ y ∈ x, y < 256) : clampB (clampA (nats x)) = nats (clampN x) ∧ ∀ y ∈ clampN x, y < 256 := by
  unfold clampB clampA clampN
  obtain ⟨e1, h1⟩ := setAnd_nat h (i := 3) (m := 15) (by decide)
  obtain ⟨e2, h2⟩ := setAnd_nat h1 (i := 7) (m := 15) (by decide)
  obtain ⟨e3, h3⟩ := setAnd_nat h2 (i := 11) (m := 15) (by decide)
  obtain ⟨e4, h4⟩ := setAnd_nat h3 (i := 15) (m := 15) (by decide)
  obtain ⟨e5, h5⟩ := setAnd_nat h4 (i := 4) (m := 252) (by decide)
  obtain ⟨e6, h6⟩ := setAnd_nat h5 (i := 8) (m := 252) (by decide)
  obtain ⟨e7, h7⟩ := setAnd_nat h6 (i := 12) (m := 252) (by decide)
  refine ⟨?_, h7⟩
  rw [show (15 : Int) = ((15 : Nat) : Int) from rfl, show (252 : Int) = ((252 : Nat) : Int) from rfl, e1, e2, e3, e4, e5, e6, e7]

/-- the number of the key's first half -/
def rOf (key : List Nat) : Nat := valB 256 (clampN (key.take 16 ++ [0])) % 2 ^ 130

theorem half_nat {key : List Nat} (h : ∀ y ∈ key, y < 256) (hk : key.length = 32) : halfL (nats key) = nats (digs 67108864 5 (rOf key)) := by
  unfold halfL
  have e : Go.Eng.splice (List.replicate 17 0) (plusO .z 1 none) (List.take (mulE (min (rowLen 1 (Go.Eng.sub (nats key) (plusO .z 1 none) (mulE (subN (hiNat (some 16) 32) none) 1))) (subN (hiNat none 17) none)) 1) (Go.Eng.sub (nats key) (plusO .z 1 none) (mulE (subN (hiNat (some 16) 32) none) 1))) = nats (key.take 16 ++ [0]) := by
    have l16 : (key.take 16).length = 16 := by rw [List.length_take]; omega
    have s : Go.Eng.sub (nats key) (plusO .z 1 none) (mulE (subN (hiNat (some 16) 32) none) 1) = nats (key.take 16) := by rw [← nats_take]; rfl
    rw [s, rowLen_one, nats_length, l16]
    show splice (List.replicate 17 0) .z ((nats (key.take 16)).take 16) = _
    rw [List.take_of_length_le (by rw [nats_length]; omega)]
    unfold splice
    rw [nats_length, l16, nats_append]
    rfl
  rw [e]
  have h0 : ∀ y ∈ key.take 16 ++ [0], y < 256 := by
    intro y hy
    rcases List.mem_append.1 hy with hy | hy
    · exact h y (List.mem_of_mem_take hy)
    · simp at hy; omega
  obtain ⟨e1, h1⟩ := clamp_nat h0
  rw [e1, limbs_nat h1]
  rfl

/-! ### the tag -/

def macN (key l : List Nat) : List Nat := digs 256 16 (polyGo (rOf key) l ((l.length + 15) / 16) 0 0 % p1305 + valB 256 (key.drop 16))

theorem mac_nat {key l : List Nat} (h : ∀ y ∈ key, y < 256) (hk : key.length = 32) (hl : ∀ x ∈ l, x < 256) : macL (nats key) (nats l) = nats (macN key l) := by
  unfold macL
  rw [half_nat h hk, nats_length]
  have hR : rOf key < 2 ^ 130 := Nat.mod_lt _ (by decide)
  have hv := digs_val 67108864 5 (rOf key)
  rw [Nat.mod_eq_of_lt hR] at hv
  have hd : ∀ x ∈ digs 67108864 5 (rOf key), x < 67108864 := digs_lt (by decide)
  obtain ⟨r0, r1, r2, r3, r4, er⟩ : ∃ r0 r1 r2 r3 r4, digs 67108864 5 (rOf key) = [r0, r1, r2, r3, r4] := ⟨_, _, _, _, _, rfl⟩
  rw [er] at hv hd ⊢
  rw [val5_eq] at hv
  have hr : Lim 134217728 r0 r1 r2 r3 r4 := by
    simp only [List.mem_cons, List.not_mem_nil, or_false, forall_eq_or_imp, forall_eq] at hd
    obtain ⟨d0, d1, d2, d3, d4⟩ := hd
    exact ⟨by omega, by omega, by omega, by omega, by omega⟩
  obtain ⟨b0, b1, b2, b3, b4, e, hs, v⟩ := macGo_nat hl hr ((l.length + 15) / 16) 0 0 0 0 0 0 ⟨by decide, by decide, by decide, by decide, by decide⟩
  rw [hv, show val5 0 0 0 0 0 = 0 from rfl] at v
  rw [show (List.replicate 5 (0 : Int)) = nats [0, 0, 0, 0, 0] from rfl, e, whole_nat hs.1 hs.2.1 hs.2.2.1 hs.2.2.2.1 hs.2.2.2.2, v, digL_eq]
  have := digGo_nat (X := polyGo (rOf key) l ((l.length + 15) / 16) 0 0 % p1305) h 16 0 0 (by decide) (by decide)
  rw [Nat.mul_zero, Nat.pow_zero, Nat.div_one, Nat.add_zero, Nat.add_zero] at this
  exact this
end Go.Proofs.Ytiaddnmloonhgaa

/- A tag with a number added, as numbers. -/
namespace Go.Proofs.Ytiaddnmloonhgaa
open Go Go.Eng
set_option maxRecDepth 100000

theorem addV_nat {c x y : Nat} (hc : c ≤ 1) (hx : x < 256) (hy : y < 256) : addV (c : Int) (x : Int) (y : Int) = ((c + x + y : Nat) : Int) := by
  unfold addV
  rw [wi64 (n := x) (by omega), wi64 (n := y) (by omega)]
  rw [show IntKind.i64.wrap ((c : Int) + (x : Int)) = ((c + x : Nat) : Int) from wi64 (n := c + x) (by omega)]
  exact wi64 (n := c + x + y) (by omega)

theorem shr8i (n : Nat) : shrI .i64 (n : Int) 8 = ((n / 256 : Nat) : Int) := shrN (k := .i64) (m := 8) (by decide) n

theorem valB_cons_at {l : List Nat} {i : Nat} (h : i < l.length) : valB 256 (l.drop i) = l.getD i 0 + 256 * valB 256 (l.drop (i + 1)) := by
  rw [List.drop_eq_getElem_cons h, valB, List.getD_eq_getElem?_getD, List.getElem?_eq_getElem h]; rfl

theorem valB_take_at {l : List Nat} {i m : Nat} (h : i < l.length) : valB 256 ((l.drop i).take (m + 1)) = l.getD i 0 + 256 * valB 256 ((l.drop (i + 1)).take m) := by
  rw [List.drop_eq_getElem_cons h, List.take_succ_cons, valB, List.getD_eq_getElem?_getD, List.getElem?_eq_getElem h]; rfl

theorem addGo_nat {t s : List Nat} (ht : ∀ x ∈ t, x < 256) (hs : ∀ x ∈ s, x < 256) (lt : t.length = 16) (ls : 16 ≤ s.length) : ∀ (m i c : Nat), i + m = 16 → c ≤ 1 →
    addGo (nats t) (nats s) m i (c : Int) = nats (digs 256 m (valB 256 (t.drop i) + valB 256 ((s.drop i).take m) + c))
  | 0, _, _, _, _ => rfl
  | m + 1, i, c, h, hc => by
    have h1 := nats_bound ht (by decide) i
    have h2 := nats_bound hs (by decide) i
    rw [addGo, nats_getD, nats_getD, addV_nat hc h1 h2, wm8, shr8i, addGo_nat ht hs lt ls m (i + 1) _ (by omega) (by omega), digs, valB_cons_at (l := t) (i := i) (by omega), valB_take_at (l := s) (i := i) (by omega)]
    generalize t.getD i 0 = x at *
    generalize s.getD i 0 = y at *
    generalize valB 256 (t.drop (i + 1)) = T
    generalize valB 256 ((s.drop (i + 1)).take m) = S
    rw [show (c + x + y) % 256 = (x + 256 * T + (y + 256 * S) + c) % 256 by omega, show T + S + (c + x + y) / 256 = (x + 256 * T + (y + 256 * S) + c) / 256 by omega]
    rfl

theorem added_nat {t s : List Nat} (ht : ∀ x ∈ t, x < 256) (hs : ∀ x ∈ s, x < 256) (lt : t.length = 16) (ls : 16 ≤ s.length) : addedL (nats t) (nats s) = nats (digs 256 16 (valB 256 t + valB 256 (s.take 16))) :=
  addGo_nat ht hs lt ls 16 0 0 rfl (by decide)

theorem digs_congr {b m x y : Nat} (h : x % b ^ m = y % b ^ m) : digs b m x = digs b m y := by
  rw [← digs_mod b m x, h, digs_mod]

theorem mac_length (key l : List Nat) : (macN key l).length = 16 := digs_length _ _ _
theorem macN_lt (key l : List Nat) : ∀ x ∈ macN key l, x < 256 := digs_lt (by decide)

/-- what a tag is, with another number added -/
theorem added_mac {key key' l : List Nat} (hk : ∀ x ∈ key, x < 256) (lk : key.length = 32) (hr : rOf key' = rOf key) (h0 : valB 256 (key'.drop 16) = 0) :
    addedL (nats (macN key' l)) (nats (key.drop 16)) = nats (macN key l) := by
  rw [added_nat (macN_lt _ _) (fun x hx => hk x (List.mem_of_mem_drop hx)) (mac_length _ _) (by rw [List.length_drop]; omega)]
  rw [List.take_of_length_le (by rw [List.length_drop]; omega)]
  refine congrArg nats ?_
  unfold macN
  rw [digs_val, hr, h0, Nat.add_zero]
  refine digs_congr ?_
  rw [Nat.add_mod, Nat.mod_mod, ← Nat.add_mod]

theorem poly_zero (l : List Nat) : ∀ (m i : Nat), polyGo 0 l m i 0 = 0
  | 0, _ => rfl
  | m + 1, i => by rw [polyGo, Nat.mul_zero]; exact poly_zero l m (i + 16)

theorem mac_bare {key l : List Nat} (hk : ∀ x ∈ key, x < 256) (lk : key.length = 32) (h : polyGo (rOf key) l ((l.length + 15) / 16) 0 0 = 0) : macN key l = key.drop 16 := by
  unfold macN
  rw [h, Nat.zero_mod, Nat.zero_add]
  have := digs_of (b := 256) (by decide) (l := key.drop 16) (fun x hx => hk x (List.mem_of_mem_drop hx))
  rw [List.length_drop, lk] at this
  exact this

/-- the tag of one piece, where the first half is 1 -/
theorem mac_one {key l : List Nat} (hk : ∀ x ∈ key, x < 256) (lk : key.length = 32) (hl : ∀ x ∈ l, x < 256) (h1 : 0 < l.length) (h2 : l.length ≤ 15) (hr : rOf key = 1) :
    nats (macN key l) = addedL (nats (key.drop 16)) (nats (l ++ 1 :: List.replicate 16 0)) := by
  have hl' : ∀ x ∈ l ++ 1 :: List.replicate 16 0, x < 256 := by
    intro x hx
    rcases List.mem_append.1 hx with hx | hx
    · exact hl x hx
    · rcases List.mem_cons.1 hx with e | hx
      · omega
      · have := List.eq_of_mem_replicate hx; omega
  rw [added_nat (fun x hx => hk x (List.mem_of_mem_drop hx)) hl' (by rw [List.length_drop, lk]) (by simp)]
  refine congrArg nats ?_
  have hv : valB 256 ((l ++ 1 :: List.replicate 16 0).take 16) = pv l := by
    rw [List.take_append, List.take_of_length_le (by omega), show 16 - l.length = (15 - l.length) + 1 by omega, List.take_succ_cons, List.take_replicate, valB_append, valB, valB_zeros]
    simp [pv]
  have hp : pv l < p1305 := by
    have a := valB_lt (by decide) hl
    have b : 256 ^ l.length ≤ 256 ^ 15 := Nat.pow_le_pow_right (by decide) h2
    unfold pv
    have e : (256 : Nat) ^ 15 + 256 ^ 15 < p1305 := by decide
    omega
  unfold macN
  rw [hr, show (l.length + 15) / 16 = 0 + 1 by omega, polyGo, polyGo, Nat.zero_add, Nat.mul_one, List.drop_zero, List.take_of_length_le (by omega), Nat.mod_eq_of_lt hp, hv, Nat.add_comm]
end Go.Proofs.Ytiaddnmloonhgaa

/- SealPoly comes to true. -/
namespace Go.Proofs.Ytiaddnmloonhgaa
open Go Go.Eng
set_option maxRecDepth 100000
set_option maxHeartbeats 1000000

def zeroGo : Nat → Nat → List Int → List Int
  | 0, _, l => l
  | m + 1, i, l => zeroGo m (i + 1) (l.set i 0)

theorem zeroGo_spec : ∀ (m i : Nat) (a l : List Int), l.length = m → a.length = i → zeroGo m i (a ++ l) = a ++ List.replicate m 0
  | 0, i, a, l, h, _ => by rw [List.eq_nil_of_length_eq_zero h]; rfl
  | m + 1, i, a, [], h, _ => by simp at h
  | m + 1, i, a, x :: l, h, ha => by
    rw [zeroGo, List.set_append_right _ _ (by omega), ha, Nat.sub_self, List.set_cons_zero, show a ++ 0 :: l = (a ++ [0]) ++ l by simp, zeroGo_spec m (i + 1) (a ++ [0]) l (by simpa using h) (by simp [ha]), List.replicate_succ]
    simp

theorem zero_loop {R : Type} (k1 : Bool → Int → List Int → List Int → List Int → Option R) (b key x : List Int) : f9_0_lp 17 k1 17 16 b key x = k1 false 32 b key (zeroGo 16 16 x) := by kernel_rfl

theorem blit9 {a b : Nat} (h : a ≤ b) : Nat.ble a b = true := by rw [Nat.ble_eq]; exact h

theorem lt_append {a b : List Nat} (ha : ∀ x ∈ a, x < 256) (hb : ∀ x ∈ b, x < 256) : ∀ x ∈ a ++ b, x < 256 := by
  intro x hx
  rcases List.mem_append.1 hx with h | h
  · exact ha x h
  · exact hb x h

theorem lt_zeros (n : Nat) : ∀ x ∈ List.replicate n 0, x < 256 := by
  intro x hx; have := List.eq_of_mem_replicate hx; omega

theorem rOf_append (a b : List Nat) (ha : a.length = 16) : rOf (a ++ b) = valB 256 (clampN (a ++ [0])) % 2 ^ 130 := by
  unfold rOf
  rw [List.take_append_of_le_length (by omega), List.take_of_length_le (by omega)]

theorem f9_true {key b : List Int} (hk : Bytes key) (lk : key.length = 32) (hb : Bytes b) (lb : b.length ≤ 1048576) : f9_raw 17 key b some = some [.v (.one (.bool true))] := by
  obtain ⟨kn, rfl⟩ := nats_of fun x hx => (hk x hx).1
  obtain ⟨bn, rfl⟩ := nats_of fun x hx => (hb x hx).1
  have hkn : ∀ x ∈ kn, x < 256 := by
    intro x hx
    have := (hk (x : Int) (by simp only [nats, List.mem_map]; exact ⟨x, hx, rfl⟩)).2
    omega
  have hbn : ∀ x ∈ bn, x < 256 := by
    intro x hx
    have := (hb (x : Int) (by simp only [nats, List.mem_map]; exact ⟨x, hx, rfl⟩)).2
    omega
  rw [nats_length] at lk lb
  have lt16 : (kn.take 16).length = 16 := by rw [List.length_take]; omega
  have ld16 : (kn.drop 16).length = 16 := by rw [List.length_drop]; omega
  have hd : ∀ x ∈ kn.drop 16, x < 256 := fun x hx => hkn x (List.mem_of_mem_drop hx)
  have ht : ∀ x ∈ kn.take 16, x < 256 := fun x hx => hkn x (List.mem_of_mem_take hx)
  -- the bare key
  have eb : zeroGo 16 16 (nats kn) = nats (kn.take 16 ++ List.replicate 16 0) := by
    have := zeroGo_spec 16 16 (nats (kn.take 16)) (nats (kn.drop 16)) (by rw [nats_length, ld16]) (by rw [nats_length, lt16])
    rw [← nats_append, List.take_append_drop] at this
    rw [this, nats_append, nats_replicate]; rfl
  have hbare : ∀ x ∈ kn.take 16 ++ List.replicate 16 0, x < 256 := lt_append ht (lt_zeros 16)
  have lbare : (kn.take 16 ++ List.replicate 16 0).length = 32 := by rw [List.length_append, lt16, List.length_replicate]
  have rb : rOf (kn.take 16 ++ List.replicate 16 0) = rOf kn := by rw [rOf_append _ _ lt16]; rfl
  have zb : valB 256 ((kn.take 16 ++ List.replicate 16 0).drop 16) = 0 := by rw [List.drop_left' lt16, valB_zeros]
  -- the key without its first half
  have hs : ∀ x ∈ List.replicate 16 0 ++ kn.drop 16, x < 256 := lt_append (lt_zeros 16) hd
  have ls : (List.replicate 16 0 ++ kn.drop 16).length = 32 := by rw [List.length_append, ld16, List.length_replicate]
  have rs : rOf (List.replicate 16 0 ++ kn.drop 16) = 0 := by rw [rOf_append _ _ (by rw [List.length_replicate])]; decide
  have ds : (List.replicate 16 0 ++ kn.drop 16).drop 16 = kn.drop 16 := List.drop_left' (by rw [List.length_replicate])
  have m1 := mac_nat hkn lk hbn
  have m2 := mac_nat hbare lbare hbn
  have m3 := mac_nat hs ls hbn
  have m4 : macL (nats kn) [] = nats (macN kn []) := mac_nat (l := []) hkn lk (by simp)
  have a1 := added_mac (l := bn) hkn lk rb zb
  have a3 : macN (List.replicate 16 0 ++ kn.drop 16) bn = kn.drop 16 := by rw [mac_bare hs ls (by rw [rs]; exact poly_zero _ _ _), ds]
  have a4 : macN kn [] = kn.drop 16 := mac_bare hkn lk rfl
  -- the words of the run
  have v1 : Go.Eng.sub (nats kn) (plusO Off.z 1 (some 16)) (mulE (subN (hiNat none 32) (some 16)) 1) = nats (kn.drop 16) := by
    show ((nats kn).drop 16).take 16 = _
    rw [List.take_of_length_le (by rw [List.length_drop, nats_length, lk]; decide), nats_drop]
  have v3 : min (rowLen 1 (nats (kn.drop 16))) (subN (hiNat none 32) (some 16)) = 16 := by rw [rowLen_one, nats_length, ld16]; rfl
  have v5 : min (rowLen 1 (nats (kn.drop 16))) (subN (hiNat none 16) none) = 16 := by rw [rowLen_one, nats_length, ld16]; rfl
  have tk : List.take (mulE 16 1) (nats (kn.drop 16)) = nats (kn.drop 16) := List.take_of_length_le (by rw [nats_length, ld16]; decide)
  have v4 : splice (List.replicate 32 0) (plusO Off.z 1 (some 16)) (nats (kn.drop 16)) = nats (List.replicate 16 0 ++ kn.drop 16) := by
    show (List.replicate 32 (0 : Int)).take 16 ++ (nats (kn.drop 16) ++ (List.replicate 32 (0 : Int)).drop (16 + (nats (kn.drop 16)).length)) = _
    rw [nats_length, ld16, nats_append, nats_replicate]
    show _ ++ (_ ++ []) = _
    rw [List.append_nil]; rfl
  have v6 : splice (List.replicate 16 0) (plusO Off.z 1 none) (nats (kn.drop 16)) = nats (kn.drop 16) := by
    show nats (kn.drop 16) ++ (List.replicate 16 (0 : Int)).drop (nats (kn.drop 16)).length = _
    rw [nats_length, ld16]
    show _ ++ [] = _
    rw [List.append_nil]
  have lm : ∀ key l, ((nats (macN key l)).length.beq 16) = true := fun key l => by rw [nats_length, mac_length]; rfl
  have l16 : Nat.ble 16 (nats (kn.drop 16)).length = true := by rw [nats_length, ld16]; rfl
  have l16' : ((nats (kn.drop 16)).length.beq 16) = true := by rw [nats_length, ld16]; rfl
  have c1 : (nats bn).length.ble lim = true := by rw [nats_length]; exact blit9 (show _ ≤ 1099511627776 by omega)
  have v12 : (nats (List.replicate 16 0 ++ kn.drop 16)).set (mulE (Int.toNat 0) 1) 1 = nats (1 :: List.replicate 15 0 ++ kn.drop 16) := rfl
  have h1 : ∀ x ∈ 1 :: List.replicate 15 0 ++ kn.drop 16, x < 256 := lt_append (by decide) hd
  have l1 : (1 :: List.replicate 15 0 ++ kn.drop 16).length = 32 := by rw [List.length_append, ld16, List.length_cons, List.length_replicate]
  have r1 : rOf (1 :: List.replicate 15 0 ++ kn.drop 16) = 1 := by rw [rOf_append _ _ (by rw [List.length_cons, List.length_replicate])]; decide
  have d1 : (1 :: List.replicate 15 0 ++ kn.drop 16).drop 16 = kn.drop 16 := List.drop_left' (by rw [List.length_cons, List.length_replicate])
  have last : ∀ pn : List Nat, (∀ x ∈ pn, x < 256) → 0 < pn.length → pn.length ≤ 15 → macL (nats (1 :: List.replicate 15 0 ++ kn.drop 16)) (nats pn) = addedL (nats (kn.drop 16)) (nats pn ++ (zerosOf (1 * 1)).set 0 1 ++ zerosOf (mulE (Int.toNat 16) 1)) := by
    intro pn hpn p1 p2
    rw [mac_nat h1 l1 hpn, mac_one h1 l1 hpn p1 p2 r1, d1]
    refine congrArg (addedL (nats (kn.drop 16))) ?_
    rw [nats_append, List.append_assoc]
    rfl
  unfold f9_raw
  rw [zero_loop, eb]
  simp only [c1, v1, v3, v5, tk, v4, v6, m1, m2, m3, m4, lm, l16, l16', a1, a3, a4, v12, decide_true, Bool.not_true, Bool.and_self, cond_true, cond_false]
  by_cases hl : 15 < bn.length
  · rw [show decide (nI (rowLen 1 (nats bn)) > 15) = true from decide_eq_true (by show (15 : Int) < ((nats bn).length : Int); rw [nats_length]; omega)]
    have e8 : Go.Eng.sub (nats bn) (plusO Off.z 1 none) (mulE (subN (hiNat (some 15) (rowLen 1 (nats bn))) none) 1) = nats (bn.take 15) := by
      rw [← nats_take]; rfl
    have l8 : (bn.take 15).length = 15 := by rw [List.length_take]; omega
    have hh := last (bn.take 15) (fun x hx => hbn x (List.mem_of_mem_take hx)) (by omega) (by omega)
    have c2 : hiOk (some 15) (rowLen 1 (nats bn)) = true := by
      rw [rowLen_one, nats_length]; exact hiOk_nat (n := 15) (by omega)
    have c3 : (nats (bn.take 15)).length.ble lim = true := by rw [nats_length, l8]; rfl
    have c4 : (((2 * (rowLen 1 (nats (bn.take 15)) + rowLen 1 ((zerosOf (1 * 1)).set 0 1)) + 192) * 1).ble big48 && (rowLen 1 (nats (bn.take 15)) + rowLen 1 ((zerosOf (1 * 1)).set 0 1)).ble big48) = true := by
      rw [rowLen_one, rowLen_one, nats_length, l8]; rfl
    have c5 : (((2 * (rowLen 1 (nats (bn.take 15) ++ (zerosOf (1 * 1)).set 0 1) + rowLen 1 (zerosOf (mulE (Int.toNat 16) 1))) + 192) * 1).ble big48 && (rowLen 1 (nats (bn.take 15) ++ (zerosOf (1 * 1)).set 0 1) + rowLen 1 (zerosOf (mulE (Int.toNat 16) 1))).ble big48) = true := by
      rw [rowLen_one, rowLen_one, List.length_append, nats_length, l8]; rfl
    have c6 : Nat.ble 16 (nats (bn.take 15) ++ (zerosOf (1 * 1)).set 0 1 ++ zerosOf (mulE (Int.toNat 16) 1)).length = true := by
      rw [List.length_append, List.length_append, nats_length, l8]; rfl
    simp only [e8, c2, c3, c4, c5, c6, hh, decide_true, Bool.not_true, Bool.and_self, cond_true, cond_false]
  · rw [show decide (nI (rowLen 1 (nats bn)) > 15) = false from decide_eq_false (by show ¬ (15 : Int) < ((nats bn).length : Int); rw [nats_length]; omega)]
    have c4 : (((2 * (rowLen 1 (nats bn) + rowLen 1 ((zerosOf (1 * 1)).set 0 1)) + 192) * 1).ble big48 && (rowLen 1 (nats bn) + rowLen 1 ((zerosOf (1 * 1)).set 0 1)).ble big48) = true := by
      rw [rowLen_one, rowLen_one, nats_length, show ((zerosOf (1 * 1)).set 0 1).length = 1 from rfl, Bool.and_eq_true]
      exact ⟨blit9 (show _ ≤ 281474976710656 by omega), blit9 (show _ ≤ 281474976710656 by omega)⟩
    have c5 : (((2 * (rowLen 1 (nats bn ++ (zerosOf (1 * 1)).set 0 1) + rowLen 1 (zerosOf (mulE (Int.toNat 16) 1))) + 192) * 1).ble big48 && (rowLen 1 (nats bn ++ (zerosOf (1 * 1)).set 0 1) + rowLen 1 (zerosOf (mulE (Int.toNat 16) 1))).ble big48) = true := by
      rw [rowLen_one, rowLen_one, List.length_append, nats_length, show ((zerosOf (1 * 1)).set 0 1).length = 1 from rfl, show (zerosOf (mulE (Int.toNat 16) 1)).length = 16 from rfl, Bool.and_eq_true]
      exact ⟨blit9 (show _ ≤ 281474976710656 by omega), blit9 (show _ ≤ 281474976710656 by omega)⟩
    have c6 : Nat.ble 16 (nats bn ++ (zerosOf (1 * 1)).set 0 1 ++ zerosOf (mulE (Int.toNat 16) 1)).length = true := by
      rw [List.length_append]; exact blit9 (by show _ ≤ _ + 16; omega)
    by_cases h0 : bn.length = 0
    · have c7 : (nI (rowLen 1 (nats bn)) == 0) = true := by rw [rowLen_one, nats_length, h0]; rfl
      simp only [c4, c5, c6, c7, decide_true, Bool.not_true, Bool.and_self, cond_true, cond_false]
    · have c7 : (nI (rowLen 1 (nats bn)) == 0) = false := by
        rw [rowLen_one, nats_length]
        simp only [nI, beq_eq_false_iff_ne, ne_eq]; omega
      have hh := last bn hbn (by omega) (by omega)
      simp only [c4, c5, c6, c7, hh, decide_true, Bool.not_true, Bool.and_self, cond_true, cond_false]
end Go.Proofs.Ytiaddnmloonhgaa

/- SealPoly, for every key and bytes of bulk at most 1048576: s is added; r = 0 or no bytes give s alone; r = 1 gives the sum of the pieces. -/
namespace Go.Proofs.Ytiaddnmloonhgaa
open Go Go.Eng Go.ChangeShapes Go.WideShapes Go.RowKit Go.ChangeAt
set_option maxRecDepth 100000

theorem contract9 (H : Type) (enc : TypeId × Value → H) (W : World) (base : Nat) (args : Array Value) (ds gs : List (DataW H)) (before : List MemPlace)
    (hval : ∀ (j : Nat) t v, Try.f9.params[j]? = some t → args[j]? = some v → Value.okWide Try.prog W .any base t v)
    (hW : DataW.Whole enc Try.prog Try.f9.params.toList Rows.sealPolySpec.vars false W args.toList ds gs before) (hk : Rows.uptoSmall H (ds ++ gs) = true) :
    Calls Try.prog 9 args W fun e W' => ∃ v, e = .returned v ∧ Rows.sealPolySpec.post enc Try.prog Try.f9 false true false false W args v W' := by
  have hW' := hW
  obtain ⟨p, q, hA, hV, rfl, hfz, hnd⟩ := hW
  obtain ⟨rfl, rfl⟩ := trodVars_none hV
  rw [Try.params9] at hA hval
  obtain ⟨v0, vs0, d0, ds0, p0, q0, hargs, rfl, rfl, h0, r0⟩ := trodAll_cons hA
  obtain ⟨v1, vs1, d1, ds1, p1, q1, rfl, rfl, rfl, h1, r1⟩ := trodAll_cons r0
  obtain ⟨rfl, rfl, rfl⟩ := trodAll_nil r1
  obtain rfl : args = #[v0, v1] := by cases args; simp_all
  have hb := bulk_bound hk
  simp only [List.append_nil, Rows.uptoBulkAll, Nat.add_zero] at hb
  obtain ⟨x0, rfl, l0, w0⟩ := open_arr Try.underlying23 Try.underlying5 (by kernel_rfl) (by kernel_rfl) (hval 0 23 v0 rfl rfl) h0
  obtain ⟨A1, n1, c1, rfl⟩ := okWide_slice Try.underlying27 (hval 1 27 v1 rfl rfl)
  obtain ⟨f1, h1⟩ := h1
  obtain ⟨x1, len1, cap1, Ad1, loc1, o11, o12, l1, o14, o15, o16, w1, o18⟩ := open_view (k := .u8) (es := 1) Try.underlying27 (by omega) (elB H enc) h1
  have b1 : len1 ≤ Rows.uptoBulk d1 := bulk_slice o18
  have hs : Sim W ⟨fun _ => False, locOf [(1, loc1)]⟩ (⟨locOf [(1, loc1)], fun _ => 0⟩ : Rho) (keyBytesS 70 x0 x1) { tmps := #[.agg (x0.map (Value.int .u8)).toArray, .slice A1 n1 c1] ++ Array.replicate (70 - 2) undef, defers := [] } W := by
    refine sim_start (s0 := keyBytesS 70 x0 x1) (ρ := ⟨locOf [(1, loc1)], fun _ => 0⟩) (args := #[.agg (x0.map (Value.int .u8)).toArray, .slice A1 n1 c1]) (n := 70) (avs := [.s (.one (.ints .u8 32 x0)), .s (.one (.own 1))]) rfl (by simp) rfl ?_ ?_ ?_ ⟨⟨rfl, l0⟩, (show RelAt ⟨locOf [(1, loc1)], fun _ => 0⟩ (keyBytesS 70 x0 x1).S (.own 1) [Value.slice A1 n1 c1] from rel_own rfl o11 o12 l1 o15 (by omega) rfl), trivial⟩
    · simp [keyBytesS, Nodup', putNames]
    · intro j it hi
      simp only [keyBytesS, AS.I, findI_cons] at hi
      split at hi
      · rename_i hj; subst hj; injection hi with hi; subst hi
        exact ⟨_, _, _, rfl, by omega, ⟨len1, l1⟩, o14⟩
      ·
        simp [findI] at hi
    · intro j p hp
      simp only [locOf] at hp
      split at hp
      · exact o16 p hp
      ·
        cases hp
  have he := f9_true (key := x0) (b := x1) (fun y hy => wf_u8 (w0 y hy)) l0 (fun y hy => wf_u8 (w1 y hy)) (by omega)
  rw [← f9_raw_eq] at he
  refine (law_calls thOk G9_ok mixed ok9 (f9_loops 17 G9_ok) (fun _ => id) hs he).mono fun e W' ⟨h1, h2, h3, h4⟩ => ?_
  exact ⟨_, h1, post_of_law laidOut (by kernel_rfl) Try.underlying4 rfl (by rw [Try.params9]; intro t ht; simp only [List.mem_cons, List.not_mem_nil, or_false] at ht; rcases ht with rfl | rfl <;> exact ⟨by kernel_rfl, by decide +kernel⟩) ⟨rfl, rfl, rfl⟩ hW' h2 h3 h4⟩

theorem lifted9 (os : Os) (started : os.Started) (H : Type) (enc : TypeId × Value → H) (F : Stop.Interp) :
    ReturnsInHanded {} Try.checked os 9 .any ((Rows.OpenSpec.upto Rows.sealPolySpec).pre6 enc Try.prog Try.f9 Rows.sealPolyUptoRow.domain false) (((Rows.OpenSpec.upto Rows.sealPolySpec).at F).post enc Try.prog Try.f9 false true false false) := by
  refine returnsInHanded_of_cond (C := Try.checked) (s := Rows.OpenSpec.upto Rows.sealPolySpec) (k := Rows.uptoSmall) rfl own0 started (by kernel_rfl) Try.func9
    (OpenSpec.witness (enc := enc) (C := Try.checked) (s := Rows.OpenSpec.upto Rows.sealPolySpec) (k := Rows.uptoSmall) rfl false ⟨#[], #[.agg (Array.mk (List.replicate 32 (Value.int .u8 0))), .slice none 0 0], []⟩ 8 (by kernel_rfl) (by kernel_rfl) (by kernel_rfl)
      (x := ([.agg (List.replicate 32 (.lit (.int .u8 0))), .nil], [], [])) (by kernel_rfl) rfl (by kernel_rfl)) ?_
  intro W base args ds gs before hval hW _ hk _
  exact contract9 H enc W base args ds gs before hval hW hk

theorem over9 : Rows.sealPolyUptoRow.holds Try.pinned (Rows.OpenSpec.upto Rows.sealPolySpec) :=
  OpenClaim.holds_of_cond 9 Try.f9 rfl rfl rfl rfl rfl rfl rfl ⟨rfl, rfl, rfl, rfl, rfl⟩ rfl rfl rfl rfl rfl (by kernel_rfl) Try.func9 (by kernel_rfl)
    (of_decide_eq_true (by kernel_rfl)) (by unfold Func.isWrapper; first | (rw [if_pos (by decide +kernel)]; kernel_rfl) | (rw [if_neg (by decide +kernel)]; exact ⟨rfl, rfl⟩))
    (fun os started H enc _ F => lifted9 os started H enc F)

theorem sealPoly_holds : Rows.SealPolyUptoSaid := over9
end Go.Proofs.Ytiaddnmloonhgaa

#print axioms Go.Proofs.Ytiaddnmloonhgaa.sealPoly_holds
