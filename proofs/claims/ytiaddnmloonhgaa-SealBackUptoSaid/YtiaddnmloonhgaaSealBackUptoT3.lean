/- A part of the proof: SealBack, for every case of bulk at most 1048576: what is sealed opens as it was; what opens is the seal of what it tells; the stream twice is nothing. -/
import Derived.Test.YtiaddnmloonhgaaSealBackUptoT2
import Derived.Test.YtiaddnmloonhgaaRows

/- The tag of bytes. -/
namespace Go.Proofs.Ytiaddnmloonhgaa
open Go Go.Eng
set_option maxRecDepth 100000

def setAnd (x : List Int) (i : Nat) (m : Int) : List Int := x.set i (andI .u8 (x.getD i 0) m)
def clampA (x : List Int) : List Int := setAnd (setAnd (setAnd (setAnd x 3 15) 7 15) 11 15) 15 15
def clampB (x : List Int) : List Int := setAnd (setAnd (setAnd x 4 252) 8 252) 12 252

theorem clampA_loop {R : Type} (N n : Nat) (k1 : Bool → Int → Int → List Int → List Int → List Int → List Int → List Int → Option R) (x3 x4 x5 x6 : List Int) :
    f24_0_lp N k1 (n + 5) 4 0 x3 x4 x5 x6 [3, 7, 11, 15] = k1 false 4 4 x3 x4 x5 (clampA x6) [3, 7, 11, 15] := by kernel_rfl

theorem clampB_loop {R : Type} (N n : Nat) (k1 : Bool → Int → Int → List Int → List Int → List Int → List Int → List Int → Option R) (x3 x4 x5 x6 : List Int) :
    f24_2_lp N k1 (n + 4) 3 0 x3 x4 x5 x6 [4, 8, 12] = k1 false 3 3 x3 x4 x5 (clampB x6) [4, 8, 12] := by kernel_rfl

def setAdd (s p : List Int) (i : Nat) : List Int := s.set i (IntKind.u64.wrap (s.getD i 0 + p.getD i 0))
def addL (s p : List Int) : List Int := setAdd (setAdd (setAdd (setAdd (setAdd s p 0) p 1) p 2) p 3) p 4

theorem add_loop {R : Type} (N n : Nat) (k1 : Bool → Int → List Int → Int → List Int → List Int → List Int → List Int → List Int → Option R) (x1 : Int) (x2 x4 x5 x6 x7 x8 : List Int) :
    f24_6_lp N k1 (n + 6) x1 x2 0 x4 x5 x6 x7 x8 = k1 false x1 x2 5 x4 x5 x6 x7 (addL x8 x2) := by kernel_rfl

/-- a piece of at most 16 bytes, with the one behind it -/
def pieceL (c : List Int) : List Int := (c ++ (List.replicate 17 0).drop c.length).set c.length 1

def macGo (r b : List Int) : Nat → Nat → List Int → List Int
  | 0, _, s => s
  | m + 1, i, s => macGo r b m (i + 16) (timesL (addL s (limbsL (pieceL ((b.drop i).take 16)))) r)

theorem mac_loop {R : Type} {N : Nat} (k1 : Bool → Int → List Int → List Int → List Int → List Int → List Int → Option R) (b x3 x4 r : List Int) (hb : b.length ≤ lim) (hN : 6 ≤ N) :
    ∀ (m q : Nat) (s : List Int), q + m = (b.length + 15) / 16 → ∀ fuel, m < fuel → ∃ e : Int, f24_4_lp N k1 fuel ((16 * q : Nat) : Int) b x3 x4 r s = k1 false e b x3 x4 r (macGo r b m (16 * q) s) := by
  have hb' : b.length ≤ 1099511627776 := hb
  intro m
  induction m with
  | zero =>
    intro q s h fuel hfu
    obtain ⟨g, rfl⟩ : ∃ g, fuel = g + 1 := ⟨fuel - 1, by omega⟩
    refine ⟨((16 * q : Nat) : Int), ?_⟩
    show f24_4_st N (f24_4_lp N k1 g) k1 _ _ _ _ _ _ = _
    unfold f24_4_st
    rw [show decide (((16 * q : Nat) : Int) < nI (rowLen 1 b)) = false from decide_eq_false (by show ¬ ((16 * q : Nat) : Int) < (b.length : Int); omega)]
    rfl
  | succ m ih =>
    intro q s h fuel hfu
    obtain ⟨g, rfl⟩ : ∃ g, fuel = g + 1 := ⟨fuel - 1, by omega⟩
    show ∃ e, f24_4_st N (f24_4_lp N k1 g) k1 _ _ _ _ _ _ = _
    unfold f24_4_st
    have hlt : 16 * q < b.length := by omega
    rw [show decide (((16 * q : Nat) : Int) < nI (rowLen 1 b)) = true from decide_eq_true (by show ((16 * q : Nat) : Int) < (b.length : Int); omega)]
    have e0 : Go.Eng.sub b (plusO .z 1 (some ((16 * q : Nat) : Int))) (mulE (subN (hiNat none (rowLen 1 b)) (some ((16 * q : Nat) : Int))) 1) = b.drop (16 * q) := by
      show (b.drop (16 * q)).take (b.length - 16 * q) = _
      rw [List.take_of_length_le]; simp
    rw [show loOk (some ((16 * q : Nat) : Int)) (hiInt none (rowLen 1 b)) = true from loOk_nat (by simp [hiInt, rowLen_one]; omega)]
    rw [e0]
    simp only [cond_true]
    have e1 : min (rowLen 1 (b.drop (16 * q))) (subN (hiNat (some 16) 17) none) = ((b.drop (16 * q)).take 16).length := by
      rw [List.length_take, Nat.min_comm, rowLen_one]; rfl
    rw [e1]
    have hl16 : ((b.drop (16 * q)).take 16).length ≤ 16 := List.length_take_le _ _
    have e2 : List.take (mulE ((b.drop (16 * q)).take 16).length 1) (b.drop (16 * q)) = (b.drop (16 * q)).take 16 := by
      rw [mulE_one, List.length_take, List.take_eq_take_iff]; omega
    rw [show (decide ((0 : Int) ≤ nI ((b.drop (16 * q)).take 16).length) && decide (nI ((b.drop (16 * q)).take 16).length < 17)) = true by simp [nI]; omega]
    rw [e2, cond_true]
    have e3 : (splice (List.replicate 17 0) (plusO .z 1 none) ((b.drop (16 * q)).take 16)).set (mulE (nI ((b.drop (16 * q)).take 16).length).toNat 1) 1 = pieceL ((b.drop (16 * q)).take 16) := by
      rw [mulE_one, nI, Int.toNat_natCast]; rfl
    rw [e3]
    obtain ⟨e, he⟩ := ih (q + 1) (timesL (addL s (limbsL (pieceL ((b.drop (16 * q)).take 16)))) r) (by omega) g (by omega)
    refine ⟨e, ?_⟩
    obtain ⟨M, rfl⟩ : ∃ M, N = M + 6 := ⟨N - 6, by omega⟩
    refine (add_loop _ _ _ _ _ _ _ _ _ _).trans ?_
    rw [wrapI (show ((16 * q : Nat) : Int) + 16 = ((16 * (q + 1) : Nat) : Int) by omega) (by omega), he]
    rfl

/-! ### the digits -/

def digRun (key b' w : List Int) : Option (List Int) := f24_8_lp 20 (fun _ _ _ _ _ _ y7 => some y7) 20 0 0 key b' w (List.replicate 16 0)

theorem dig_some (key b' w : List Int) : (digRun key b' w).isSome = true := by kernel_rfl

theorem dig_match {R : Type} (M : Nat) (k1 : List Int → Option R) (key b' w : List Int) : f24_8_lp (M + 40) (fun _ _ _ _ _ _ y7 => k1 y7) (M + 40) 0 0 key b' w (List.replicate 16 0) = match digRun key b' w with | some o => k1 o | none => none := by kernel_rfl

def digL (key b' w : List Int) : List Int := (digRun key b' w).getD []

theorem dig_loop {R : Type} (M : Nat) (k1 : List Int → Option R) (key b' w : List Int) : f24_8_lp (M + 40) (fun _ _ _ _ _ _ y7 => k1 y7) (M + 40) 0 0 key b' w (List.replicate 16 0) = k1 (digL key b' w) := by
  rw [dig_match]
  have := dig_some key b' w
  unfold digL
  cases h : digRun key b' w with
  | none => rw [h] at this; cases this
  | some o => rfl

def halfL (key : List Int) : List Int :=
  limbsL (clampB (clampA (Go.Eng.splice (List.replicate 17 0) (plusO .z 1 none) (List.take (mulE (min (rowLen 1 (Go.Eng.sub key (plusO .z 1 none) (mulE (subN (hiNat (some 16) 32) none) 1))) (subN (hiNat none 17) none)) 1) (Go.Eng.sub key (plusO .z 1 none) (mulE (subN (hiNat (some 16) 32) none) 1))))))

def macL (key b : List Int) : List Int :=
  digL key (List.replicate 16 0) (wholeL (macGo (halfL key) b ((b.length + 15) / 16) 0 (List.replicate 5 0)))

theorem f24_spec {R : Type} (key b : List Int) (k : List DV → Option R) (hb : b.length ≤ lim) : f24_raw (b.length + 40) key b k = k [.v (.one (.ints .u8 16 (macL key b)))] := by
  unfold f24_raw
  refine (clampA_loop (b.length + 40) (b.length + 35) _ b key (List.replicate 16 0) _).trans ?_
  refine (clampB_loop (b.length + 40) (b.length + 36) _ b key (List.replicate 16 0) _).trans ?_
  obtain ⟨e, he⟩ := mac_loop (R := R) (N := b.length + 40) (fun w12_1 w12_2 w12_3 w12_4 w12_5 w12_6 w12_7 => f24_8_lp (b.length + 40) (fun w13_1 w13_2 w13_3 w13_4 w13_5 w13_6 w13_7 => k [DV.v (SV.one (At.ints IntKind.u8 16 w13_7))]) (b.length + 40) 0 0 w12_4 w12_5 (wholeL w12_7) (List.replicate 16 0)) b key (List.replicate 16 0) (halfL key) hb (by omega) ((b.length + 15) / 16) 0 (List.replicate 5 0) (by omega) (b.length + 40) (by omega)
  refine he.trans ?_
  exact dig_loop b.length (fun o => k [.v (.one (.ints .u8 16 o))]) _ _ _

def I24 : (R : Type) → List DV → (List DV → Option R) → Option R := fun _ ds k => match ds with
  | [.v (.one (.ints .u8 32 key)), .lst .u8 1 b] => cond (Nat.ble b.length lim) (k [.v (.one (.ints .u8 16 (macL key b)))]) none
  | _ => none

theorem c24 : Contract Try.prog 24 { sig := S24, impl := I24 } := by
  refine Contract.refine fun R ds k r h => ?_
  unfold I24 at h
  split at h
  · rename_i key b
    refine ⟨_, f24_contract (b.length + 40) G24_ok, ?_⟩
    rw [f24_raw_eq]
    cases hb : Nat.ble b.length lim with
    | true => rw [hb] at h; rw [f24_spec key b k (Nat.le_of_ble_eq_true hb)]; exact h
    | false => rw [hb] at h; cases h
  · exact (Option.some_ne_none _ h.symm).elim

def G67 : Ctx := [(18, { sig := S18, impl := I18 }), (24, { sig := S24, impl := I24 }), (44, { sig := S44, impl := I44 }), (96, { sig := S96, impl := I96 })]
theorem G67_ok : CtxOk Try.prog G67 := ctxOk_cons ok18 rfl c18 (ctxOk_cons ok24 rfl c24 (ctxOk_cons ok44 rfl c44 (ctxOk_cons ok96 rfl c96 ctxOk_nil)))

end Go.Proofs.Ytiaddnmloonhgaa

/- What rime/seal.tag comes to. MADE BY PROGRAM (wip/tools/mkfn.py, EngGen.lean). -/
namespace Go.Proofs.Ytiaddnmloonhgaa
open Go Go.Eng
set_option maxRecDepth 100000
set_option linter.unusedVariables false

def f67_raw {R : Type} (N : Nat) (key : List Int) (nonce : List Int) (a : List Int) (b : List Int) (k : List DV → Option R) : Option R :=
 bif a.length.ble Go.Proofs.Ytiaddnmloonhgaa.lim then
 bif b.length.ble Go.Proofs.Ytiaddnmloonhgaa.lim then
 bif ((2 * (Go.Eng.rowLen 1 (Go.Proofs.Ytiaddnmloonhgaa.padL a) + Go.Eng.rowLen 1 (Go.Proofs.Ytiaddnmloonhgaa.padL b)) + 192) * 1).ble Go.Eng.big48 && (Go.Eng.rowLen 1 (Go.Proofs.Ytiaddnmloonhgaa.padL a) + Go.Eng.rowLen 1 (Go.Proofs.Ytiaddnmloonhgaa.padL b)).ble Go.Eng.big48 then
 let v0 : List Int := Go.Proofs.Ytiaddnmloonhgaa.padL a ++ Go.Proofs.Ytiaddnmloonhgaa.padL b;
 let v1 : Int := Go.IntKind.u64.wrap (Go.Eng.nI (Go.Eng.rowLen 1 a));
 bif ((2 * (Go.Eng.rowLen 1 v0 + Go.Eng.rowLen 1 (Go.Proofs.Ytiaddnmloonhgaa.bytesL v1 (Int.toNat 8))) + 192) * 1).ble Go.Eng.big48 && (Go.Eng.rowLen 1 v0 + Go.Eng.rowLen 1 (Go.Proofs.Ytiaddnmloonhgaa.bytesL v1 (Int.toNat 8))).ble Go.Eng.big48 then
 let v2 : List Int := v0 ++ Go.Proofs.Ytiaddnmloonhgaa.bytesL v1 (Int.toNat 8);
 let v3 : Int := Go.IntKind.u64.wrap (Go.Eng.nI (Go.Eng.rowLen 1 b));
 bif ((2 * (Go.Eng.rowLen 1 v2 + Go.Eng.rowLen 1 (Go.Proofs.Ytiaddnmloonhgaa.bytesL v3 (Int.toNat 8))) + 192) * 1).ble Go.Eng.big48 && (Go.Eng.rowLen 1 v2 + Go.Eng.rowLen 1 (Go.Proofs.Ytiaddnmloonhgaa.bytesL v3 (Int.toNat 8))).ble Go.Eng.big48 then
 let v4 : List Int := v2 ++ Go.Proofs.Ytiaddnmloonhgaa.bytesL v3 (Int.toNat 8);
 bif v4.length.ble Go.Proofs.Ytiaddnmloonhgaa.lim then k [Go.Eng.DV.v (Go.Eng.SV.one (Go.Eng.At.ints Go.IntKind.u8 16 (Go.Proofs.Ytiaddnmloonhgaa.macL (List.take 32 (List.drop 0 (Go.Proofs.Ytiaddnmloonhgaa.blockL key 0 nonce))) v4)))] else Option.none
 else Option.none
 else Option.none
 else Option.none
 else Option.none
else Option.none


noncomputable def E67 (N : Nat) : Env := { Θ := Th, Γ := G67, K := K67, ν := N67, fuel := 0, lp := [] }


theorem f67_contract (N : Nat) (hΓ : CtxOk Try.prog G67) : Contract Try.prog 67 { sig := S67, impl := fun _ ds k => call (E67 N) S67 39 B67 R67 ds k } :=
  call_contract (E := E67 N) thOk hΓ mixed ok67.look ok67.body ok67.n ok67.rv rfl (by decide) (loopsOk_of (l := []) (by kernel_rfl) trivial)
theorem f67_raw_eq {R : Type} (N : Nat) (key : List Int) (nonce : List Int) (a : List Int) (b : List Int) (k : List DV → Option R) : call (E67 N) S67 39 B67 R67 [.v (.one (.ints .u8 32 key)), .v (.one (.ints .u8 12 nonce)), .lst .u8 1 a, .lst .u8 1 b] k = f67_raw N key nonce a b k := by kernel_rfl
end Go.Proofs.Ytiaddnmloonhgaa

/- The tag of what is open and what is sealed. -/
namespace Go.Proofs.Ytiaddnmloonhgaa
open Go Go.Eng
set_option maxRecDepth 100000

def lim4 : Nat := 274877906944

theorem bytesGo_length (n : Int) : ∀ (m i : Nat), (bytesGo n m i).length = m
  | 0, _ => rfl
  | m + 1, i => by simp [bytesGo, bytesGo_length n m (i + 1)]

theorem bytesL_length (n : Int) (m : Nat) : (bytesL n m).length = m := bytesGo_length n m 0

theorem padL_length (a : List Int) : (padL a).length = a.length + padN a.length := by simp [padL]

theorem padN_lt (n : Nat) : padN n < 16 := Nat.mod_lt _ (by omega)

def wholeText (a b : List Int) : List Int := padL a ++ padL b ++ bytesL (a.length : Int) 8 ++ bytesL (b.length : Int) 8

def tagL (key nonce a b : List Int) : List Int := macL ((blockL key 0 nonce).take 32) (wholeText a b)

def I67 : (R : Type) → List DV → (List DV → Option R) → Option R := fun _ ds k => match ds with
  | [.v (.one (.ints .u8 32 key)), .v (.one (.ints .u8 12 nonce)), .lst .u8 1 a, .lst .u8 1 b] =>
    cond (Nat.ble a.length lim4 && Nat.ble b.length lim4) (k [.v (.one (.ints .u8 16 (tagL key nonce a b)))]) none
  | _ => none

theorem c67 : Contract Try.prog 67 { sig := S67, impl := I67 } := by
  refine Contract.refine fun R ds k r h => ⟨_, f67_contract 0 G67_ok, ?_⟩
  unfold I67 at h
  split at h
  · rename_i key nonce a b
    rw [f67_raw_eq]
    cases hb : (Nat.ble a.length lim4 && Nat.ble b.length lim4) with
    | false => rw [hb] at h; cases h
    | true =>
      rw [hb] at h
      simp only [Bool.and_eq_true] at hb
      have ha : a.length ≤ 274877906944 := Nat.le_of_ble_eq_true hb.1
      have hb : b.length ≤ 274877906944 := Nat.le_of_ble_eq_true hb.2
      have pa := padL_length a
      have pb := padL_length b
      have qa := padN_lt a.length
      have qb := padN_lt b.length
      unfold f67_raw
      have e1 : IntKind.u64.wrap (nI (rowLen 1 a)) = (a.length : Int) := wrapU64 (n := a.length) (by omega)
      have e2 : IntKind.u64.wrap (nI (rowLen 1 b)) = (b.length : Int) := wrapU64 (n := b.length) (by omega)
      simp only [e1, e2]
      rw [show a.length.ble lim = true by simp [lim]; omega, show b.length.ble lim = true by simp [lim]; omega]
      rw [show (((2 * (rowLen 1 (padL a) + rowLen 1 (padL b)) + 192) * 1).ble big48 && (rowLen 1 (padL a) + rowLen 1 (padL b)).ble big48) = true by
        simp [rowLen_one, big48, pa, pb]; omega]
      rw [show (((2 * (rowLen 1 (padL a ++ padL b) + rowLen 1 (bytesL (a.length : Int) (Int.toNat 8))) + 192) * 1).ble big48 && (rowLen 1 (padL a ++ padL b) + rowLen 1 (bytesL (a.length : Int) (Int.toNat 8))).ble big48) = true by
        simp [rowLen_one, big48, pa, pb, bytesL_length]; omega]
      rw [show (((2 * (rowLen 1 (padL a ++ padL b ++ bytesL (a.length : Int) (Int.toNat 8)) + rowLen 1 (bytesL (b.length : Int) (Int.toNat 8))) + 192) * 1).ble big48 && (rowLen 1 (padL a ++ padL b ++ bytesL (a.length : Int) (Int.toNat 8)) + rowLen 1 (bytesL (b.length : Int) (Int.toNat 8))).ble big48) = true by
        simp [rowLen_one, big48, pa, pb, bytesL_length]; omega]
      rw [show (padL a ++ padL b ++ bytesL (a.length : Int) (Int.toNat 8) ++ bytesL (b.length : Int) (Int.toNat 8)).length.ble lim = true by
        simp [lim, pa, pb, bytesL_length]; omega]
      exact h
  · cases h

def G28 : Ctx := [(16, { sig := S16, impl := I16 }), (67, { sig := S67, impl := I67 })]
theorem G28_ok : CtxOk Try.prog G28 := ctxOk_cons ok16 rfl c16 (ctxOk_cons ok67 rfl c67 ctxOk_nil)

end Go.Proofs.Ytiaddnmloonhgaa

/- What rime/seal.Seal comes to. MADE BY PROGRAM (wip/tools/mkfn.py, EngGen.lean). -/
namespace Go.Proofs.Ytiaddnmloonhgaa
open Go Go.Eng
set_option maxRecDepth 100000
set_option linter.unusedVariables false

def f28_raw {R : Type} (N : Nat) (key : List Int) (nonce : List Int) (a : List Int) (b : List Int) (k : List DV → Option R) : Option R :=
 bif Decidable.decide (0 ≤ 1) && (Decidable.decide (1 < 4294967296) && b.length.ble Go.Proofs.Ytiaddnmloonhgaa.lim) then
 bif Go.Proofs.Ytiaddnmloonhgaa.tooFar (Int.toNat 1) b.length then
 bif a.length.ble Go.Proofs.Ytiaddnmloonhgaa.lim4 && ([] : List Int).length.ble Go.Proofs.Ytiaddnmloonhgaa.lim4 then
 let v0 : List Int := Go.Eng.sub (Go.Proofs.Ytiaddnmloonhgaa.tagL key nonce a []) (Go.Eng.plusO Go.Eng.Off.z 1 Option.none) (Go.Eng.mulE (Go.Eng.subN (Go.Eng.hiNat Option.none 16) Option.none) 1);
 let v1 : List Int := [] ++ v0;
 k [Go.Eng.DV.lst Go.IntKind.u8 1 v1]
 else Option.none
 else
 bif a.length.ble Go.Proofs.Ytiaddnmloonhgaa.lim4 && (Go.Proofs.Ytiaddnmloonhgaa.streamL key (Int.toNat 1) nonce b).length.ble Go.Proofs.Ytiaddnmloonhgaa.lim4 then
 let v2 : List Int := Go.Eng.sub (Go.Proofs.Ytiaddnmloonhgaa.tagL key nonce a (Go.Proofs.Ytiaddnmloonhgaa.streamL key (Int.toNat 1) nonce b)) (Go.Eng.plusO Go.Eng.Off.z 1 Option.none) (Go.Eng.mulE (Go.Eng.subN (Go.Eng.hiNat Option.none 16) Option.none) 1);
 bif ((2 * (Go.Eng.rowLen 1 (Go.Proofs.Ytiaddnmloonhgaa.streamL key (Int.toNat 1) nonce b) + Go.Eng.rowLen 1 v2) + 192) * 1).ble Go.Eng.big48 && (Go.Eng.rowLen 1 (Go.Proofs.Ytiaddnmloonhgaa.streamL key (Int.toNat 1) nonce b) + Go.Eng.rowLen 1 v2).ble Go.Eng.big48 then
 let v3 : List Int := Go.Proofs.Ytiaddnmloonhgaa.streamL key (Int.toNat 1) nonce b ++ v2;
 k [Go.Eng.DV.lst Go.IntKind.u8 1 v3]
 else Option.none
 else Option.none
else Option.none


noncomputable def E28 (N : Nat) : Env := { Θ := Th, Γ := G28, K := K28, ν := N28, fuel := 0, lp := [] }


theorem f28_contract (N : Nat) (hΓ : CtxOk Try.prog G28) : Contract Try.prog 28 { sig := S28, impl := fun _ ds k => call (E28 N) S28 27 B28 R28 ds k } :=
  call_contract (E := E28 N) thOk hΓ mixed ok28.look ok28.body ok28.n ok28.rv rfl (by decide) (loopsOk_of (l := []) (by kernel_rfl) trivial)
theorem f28_raw_eq {R : Type} (N : Nat) (key : List Int) (nonce : List Int) (a : List Int) (b : List Int) (k : List DV → Option R) : call (E28 N) S28 27 B28 R28 [.v (.one (.ints .u8 32 key)), .v (.one (.ints .u8 12 nonce)), .lst .u8 1 a, .lst .u8 1 b] k = f28_raw N key nonce a b k := by kernel_rfl
end Go.Proofs.Ytiaddnmloonhgaa

/- What rime/seal.Open comes to. MADE BY PROGRAM (wip/tools/mkfn.py, EngGen.lean). -/
namespace Go.Proofs.Ytiaddnmloonhgaa
open Go Go.Eng
set_option maxRecDepth 100000
set_option linter.unusedVariables false

def f26_raw {R : Type} (N : Nat) (key : List Int) (nonce : List Int) (a : List Int) (b : List Int) (k : List DV → Option R) : Option R :=
 let v0 : Int := Go.IntKind.i64.wrap (Go.Eng.nI (Go.Eng.rowLen 1 b) - 16);
bif Decidable.decide (v0 < 0) then k [Go.Eng.DV.lst Go.IntKind.u8 1 [], Go.Eng.DV.v (Go.Eng.SV.one (Go.Eng.At.int Go.IntKind.i64 3))]
else
 bif Go.Eng.hiOk (Option.some v0) (Go.Eng.rowLen 1 b) then
 let v1 : List Int := Go.Eng.sub b (Go.Eng.plusO Go.Eng.Off.z 1 Option.none) (Go.Eng.mulE (Go.Eng.subN (Go.Eng.hiNat (Option.some v0) (Go.Eng.rowLen 1 b)) Option.none) 1);
 bif a.length.ble Go.Proofs.Ytiaddnmloonhgaa.lim4 && v1.length.ble Go.Proofs.Ytiaddnmloonhgaa.lim4 then bif Go.Eng.loOk (Option.some v0) (Go.Eng.hiInt Option.none (Go.Eng.rowLen 1 b)) then bif Nat.ble 1 16 && Nat.ble 16 (Go.Eng.subN (Go.Eng.hiNat Option.none (Go.Eng.rowLen 1 b)) (Option.some v0)) then bif !Decidable.decide (Go.Proofs.Ytiaddnmloonhgaa.tagL key nonce a v1 = List.take 16 (List.drop (Go.Eng.mulE v0.toNat 1) b)) then k [Go.Eng.DV.lst Go.IntKind.u8 1 [], Go.Eng.DV.v (Go.Eng.SV.one (Go.Eng.At.int Go.IntKind.i64 121))] else bif Go.Eng.hiOk (Option.some v0) (Go.Eng.rowLen 1 b) then bif Decidable.decide (0 ≤ 1) && (Decidable.decide (1 < 4294967296) && v1.length.ble Go.Proofs.Ytiaddnmloonhgaa.lim) then bif Go.Proofs.Ytiaddnmloonhgaa.tooFar (Int.toNat 1) v1.length then k [Go.Eng.DV.lst Go.IntKind.u8 1 [], Go.Eng.DV.v (Go.Eng.SV.one (Go.Eng.At.int Go.IntKind.i64 122))] else k [Go.Eng.DV.lst Go.IntKind.u8 1 (Go.Proofs.Ytiaddnmloonhgaa.streamL key (Int.toNat 1) nonce v1), Go.Eng.DV.v (Go.Eng.SV.one (Go.Eng.At.int Go.IntKind.i64 0))] else Option.none else Option.none else Option.none else Option.none else Option.none
 else Option.none


noncomputable def E26 (N : Nat) : Env := { Θ := Th, Γ := G28, K := K26, ν := N26, fuel := 0, lp := [] }


theorem f26_contract (N : Nat) (hΓ : CtxOk Try.prog G28) : Contract Try.prog 26 { sig := S26, impl := fun _ ds k => call (E26 N) S26 37 B26 R26 ds k } :=
  call_contract (E := E26 N) thOk hΓ mixed ok26.look ok26.body ok26.n ok26.rv rfl (by decide) (loopsOk_of (l := []) (by kernel_rfl) trivial)
theorem f26_raw_eq {R : Type} (N : Nat) (key : List Int) (nonce : List Int) (a : List Int) (b : List Int) (k : List DV → Option R) : call (E26 N) S26 37 B26 R26 [.v (.one (.ints .u8 32 key)), .v (.one (.ints .u8 12 nonce)), .lst .u8 1 a, .lst .u8 1 b] k = f26_raw N key nonce a b k := by kernel_rfl
end Go.Proofs.Ytiaddnmloonhgaa

/- What is sealed; what is opened. -/
namespace Go.Proofs.Ytiaddnmloonhgaa
open Go Go.Eng
set_option maxRecDepth 100000

def lim5 : Nat := 68719476736

theorem maskL_length (f : Nat → Int) (b : List Int) : (maskL f b).length = b.length := by simp [maskL]
theorem streamL_length (key : List Int) (c : Nat) (nonce b : List Int) : (streamL key c nonce b).length = b.length := maskL_length _ _

theorem near {n : Nat} (h : n ≤ 68719476736) : tooFar 1 n = false := by
  simp [tooFar]; omega

theorem wrapNeg : ∀ n : Fin 16, IntKind.i64.wrap ((n.val : Int) - 16) = (n.val : Int) - 16 := by decide +kernel

def sealL (key nonce a b : List Int) : List Int := streamL key 1 nonce b ++ (tagL key nonce a (streamL key 1 nonce b)).take 16

def I28 : (R : Type) → List DV → (List DV → Option R) → Option R := fun _ ds k => match ds with
  | [.v (.one (.ints .u8 32 key)), .v (.one (.ints .u8 12 nonce)), .lst .u8 1 a, .lst .u8 1 b] =>
    cond (Nat.ble a.length lim5 && Nat.ble b.length lim5) (k [.lst .u8 1 (sealL key nonce a b)]) none
  | _ => none

theorem c28 : Contract Try.prog 28 { sig := S28, impl := I28 } := by
  refine Contract.refine fun R ds k r h => ⟨_, f28_contract 0 G28_ok, ?_⟩
  unfold I28 at h
  split at h
  · rename_i key nonce a b
    rw [f28_raw_eq]
    cases hb : (Nat.ble a.length lim5 && Nat.ble b.length lim5) with
    | false => rw [hb] at h; cases h
    | true =>
      rw [hb] at h
      simp only [Bool.and_eq_true] at hb
      have ha : a.length ≤ 68719476736 := Nat.le_of_ble_eq_true hb.1
      have hb : b.length ≤ 68719476736 := Nat.le_of_ble_eq_true hb.2
      unfold f28_raw
      rw [show (decide ((0 : Nat) ≤ 1) && (decide ((1 : Nat) < 4294967296) && b.length.ble lim)) = true by simp [lim]; omega]
      rw [show tooFar (Int.toNat 1) b.length = false from near hb]
      rw [show (a.length.ble lim4 && (streamL key (Int.toNat 1) nonce b).length.ble lim4) = true by simp [lim4, streamL_length]; omega]
      have ht : (Go.Eng.sub (tagL key nonce a (streamL key (Int.toNat 1) nonce b)) (plusO .z 1 none) (mulE (subN (hiNat none 16) none) 1)).length ≤ 16 := List.length_take_le _ _
      simp only [cond_true, cond_false]
      rw [show (((2 * (rowLen 1 (streamL key (Int.toNat 1) nonce b) + rowLen 1 (Go.Eng.sub (tagL key nonce a (streamL key (Int.toNat 1) nonce b)) (plusO .z 1 none) (mulE (subN (hiNat none 16) none) 1))) + 192) * 1).ble big48 &&
          (rowLen 1 (streamL key (Int.toNat 1) nonce b) + rowLen 1 (Go.Eng.sub (tagL key nonce a (streamL key (Int.toNat 1) nonce b)) (plusO .z 1 none) (mulE (subN (hiNat none 16) none) 1))).ble big48) = true by
        simp only [rowLen_one, big48, streamL_length, Bool.and_eq_true, Nat.ble_eq]; omega]
      exact h
  · cases h

/-- what opening answers: bytes and how it went -/
def openL (key nonce a b : List Int) : List Int × Int :=
  if b.length < 16 then ([], 3) else
  if tagL key nonce a (b.take (b.length - 16)) = (b.drop (b.length - 16)).take 16 then (streamL key 1 nonce (b.take (b.length - 16)), 0) else ([], 121)

def I26 : (R : Type) → List DV → (List DV → Option R) → Option R := fun _ ds k => match ds with
  | [.v (.one (.ints .u8 32 key)), .v (.one (.ints .u8 12 nonce)), .lst .u8 1 a, .lst .u8 1 b] =>
    cond (Nat.ble a.length lim5 && Nat.ble b.length lim5) (k [.lst .u8 1 (openL key nonce a b).1, .v (.one (.int .i64 (openL key nonce a b).2))]) none
  | _ => none

theorem c26 : Contract Try.prog 26 { sig := S26, impl := I26 } := by
  refine Contract.refine fun R ds k r h => ⟨_, f26_contract 0 G28_ok, ?_⟩
  unfold I26 at h
  split at h
  · rename_i key nonce a b
    rw [f26_raw_eq]
    cases hb : (Nat.ble a.length lim5 && Nat.ble b.length lim5) with
    | false => rw [hb] at h; cases h
    | true =>
      rw [hb] at h
      simp only [Bool.and_eq_true] at hb
      have ha : a.length ≤ 68719476736 := Nat.le_of_ble_eq_true hb.1
      have hb : b.length ≤ 68719476736 := Nat.le_of_ble_eq_true hb.2
      unfold f26_raw
      unfold openL at h
      by_cases hl : b.length < 16
      · have e0 : decide (IntKind.i64.wrap (nI (rowLen 1 b) - 16) < 0) = true := by
          have : IntKind.i64.wrap (nI (rowLen 1 b) - 16) = nI (rowLen 1 b) - 16 := by
            exact wrapNeg ⟨b.length, hl⟩
          rw [this]
          exact decide_eq_true (by show (b.length : Int) - 16 < 0; omega)
        simp only
        rw [e0]
        rw [if_pos hl] at h
        exact h
      · have e0 : IntKind.i64.wrap (nI (rowLen 1 b) - 16) = ((b.length - 16 : Nat) : Int) := wrapI (by show (b.length : Int) - 16 = _; omega) (by omega)
        rw [if_neg hl] at h
        rw [e0]
        have e1 : decide (((b.length - 16 : Nat) : Int) < 0) = false := by simp
        have e2 : hiOk (some ((b.length - 16 : Nat) : Int)) (rowLen 1 b) = true := hiOk_nat (by rw [rowLen_one]; omega)
        have e3 : Go.Eng.sub b (plusO .z 1 none) (mulE (subN (hiNat (some ((b.length - 16 : Nat) : Int)) (rowLen 1 b)) none) 1) = b.take (b.length - 16) := by
          simp [Go.Eng.sub, plusO, mulE, subN, hiNat]
        have e4 : loOk (some ((b.length - 16 : Nat) : Int)) (hiInt none (rowLen 1 b)) = true := loOk_nat (by simp [hiInt, rowLen_one])
        have e5 : (Nat.ble 1 16 && Nat.ble 16 (subN (hiNat none (rowLen 1 b)) (some ((b.length - 16 : Nat) : Int)))) = true := by
          simp [subN, hiNat, rowLen_one]; omega
        have l1 : (b.take (b.length - 16)).length ≤ 68719476736 := by rw [List.length_take]; omega
        have e6 : (a.length.ble lim4 && (b.take (b.length - 16)).length.ble lim4) = true := by simp only [lim4, Bool.and_eq_true, Nat.ble_eq]; omega
        have e7 : (decide ((0 : Nat) ≤ 1) && (decide ((1 : Nat) < 4294967296) && (b.take (b.length - 16)).length.ble lim)) = true := by
          simp only [lim, Bool.and_eq_true, Nat.ble_eq, decide_eq_true_eq]; omega
        have e8 : tooFar (Int.toNat 1) (b.take (b.length - 16)).length = false := near l1
        have e9 : (b.drop (mulE ((b.length - 16 : Nat) : Int).toNat 1)) = b.drop (b.length - 16) := by rw [mulE_one, Int.toNat_natCast]
        simp only
        rw [e1, e2, e3, e4, e5, e6, e7, e8, e9]
        by_cases ht : tagL key nonce a (b.take (b.length - 16)) = (b.drop (b.length - 16)).take 16
        · rw [if_pos ht] at h
          rw [show decide (tagL key nonce a (b.take (b.length - 16)) = (b.drop (b.length - 16)).take 16) = true from decide_eq_true ht]
          exact h
        · rw [if_neg ht] at h
          rw [show decide (tagL key nonce a (b.take (b.length - 16)) = (b.drop (b.length - 16)).take 16) = false from decide_eq_false ht]
          exact h
  · cases h

def G23 : Ctx := [(21, { sig := S21, impl := I21 }), (26, { sig := S26, impl := I26 }), (28, { sig := S28, impl := I28 })]
theorem G23_ok : CtxOk Try.prog G23 := ctxOk_cons ok21 rfl c21 (ctxOk_cons ok26 rfl c26 (ctxOk_cons ok28 rfl c28 ctxOk_nil))

end Go.Proofs.Ytiaddnmloonhgaa

/- What the laws read. -/
namespace Go.Proofs.Ytiaddnmloonhgaa
open Go Go.Eng

def I23 : (R : Type) → List DV → (List DV → Option R) → Option R := fun _ ds k => match ds with
  | [] => k [.v (.one (.bool true))]
  | _ => none

def G6 : Ctx := [(16, { sig := S16, impl := I16 }), (20, { sig := S20, impl := I20 }), (23, { sig := S23, impl := I23 }), (24, { sig := S24, impl := I24 }), (26, { sig := S26, impl := I26 }), (28, { sig := S28, impl := I28 }), (18, { sig := S18, impl := I18 }), (30, { sig := S30, impl := I30 })]

/-- the start of a law over a case -/
def caseS (n : Nat) (key nonce op text other : List Int) (at_ by_ : Int) : AS :=
  { n := n, lo := 0, tmps := [(0, .s (.agg [.ints .u8 32 key, .ints .u8 12 nonce, .own 1000001, .own 1000002, .own 1000003, .int .i64 at_, .int .u8 by_]))],
    items := [(1000001, .view .u8 1 op), (1000002, .view .u8 1 text), (1000003, .view .u8 1 other)] }

end Go.Proofs.Ytiaddnmloonhgaa

/- There and back. -/
namespace Go.Proofs.Ytiaddnmloonhgaa
open Go Go.Eng
set_option maxRecDepth 100000

def Bytes (l : List Int) : Prop := ∀ x ∈ l, 0 ≤ x ∧ x < 256

theorem wrapU8 {n : Int} (h0 : 0 ≤ n) (h : n < 256) : IntKind.u8.wrap n = n := by
  unfold IntKind.wrap
  simp only [IntKind.bits, IntKind.signed]
  have e : n % 2 ^ 8 = n := Int.emod_eq_of_lt h0 (by omega)
  simp only [e]
  simp

theorem xor8_eq (x y : Int) : xorI .u8 x y = ((BitVec.ofInt 8 x ^^^ BitVec.ofInt 8 y).toNat : Int) := by
  have h := (BitVec.ofInt 8 x ^^^ BitVec.ofInt 8 y).isLt
  exact wrapU8 (n := ((BitVec.ofInt 8 x ^^^ BitVec.ofInt 8 y).toNat : Int)) (by omega) (by omega)

theorem xor8_byte (x y : Int) : 0 ≤ xorI .u8 x y ∧ xorI .u8 x y < 256 := by
  rw [xor8_eq]
  have h := (BitVec.ofInt 8 x ^^^ BitVec.ofInt 8 y).isLt
  omega

theorem xor8_twice {x : Int} (h0 : 0 ≤ x) (h : x < 256) (y : Int) : xorI .u8 (xorI .u8 x y) y = x := by
  rw [xor8_eq (xorI .u8 x y) y, xor8_eq x y]
  rw [BitVec.ofInt_natCast, BitVec.ofNat_toNat]
  simp only [BitVec.setWidth_eq]
  rw [BitVec.xor_assoc, BitVec.xor_self, BitVec.xor_zero, BitVec.toNat_ofInt]
  omega

theorem stream_bytes (key : List Int) (c : Nat) (nonce b : List Int) : Bytes (streamL key c nonce b) := by
  intro x hx
  unfold streamL maskL at hx
  rw [List.mem_mapIdx] at hx
  obtain ⟨i, hi, rfl⟩ := hx
  exact xor8_byte _ _

theorem stream_twice (key : List Int) (c : Nat) (nonce : List Int) {b : List Int} (hb : Bytes b) : streamL key c nonce (streamL key c nonce b) = b := by
  apply List.ext_getElem?
  intro i
  unfold streamL maskL
  rw [List.getElem?_mapIdx, List.getElem?_mapIdx]
  cases h : b[i]? with
  | none => rfl
  | some x =>
    obtain ⟨h0, h1⟩ := hb x (List.mem_of_getElem? h)
    simp only [Option.map_some]
    rw [xor8_twice h0 h1]

theorem digL_length (key b' w : List Int) : (digL key b' w).length = 16 := by kernel_rfl

theorem macL_length (key b : List Int) : (macL key b).length = 16 := digL_length _ _ _

theorem tagL_length (key nonce a b : List Int) : (tagL key nonce a b).length = 16 := macL_length _ _

theorem sealL_eq (key nonce a b : List Int) : sealL key nonce a b = streamL key 1 nonce b ++ tagL key nonce a (streamL key 1 nonce b) := by
  unfold sealL
  rw [List.take_of_length_le (by rw [tagL_length]; omega)]

theorem sealL_length (key nonce a b : List Int) : (sealL key nonce a b).length = b.length + 16 := by
  rw [sealL_eq, List.length_append, streamL_length, tagL_length]

theorem open_seal (key nonce a : List Int) {b : List Int} (hb : Bytes b) : openL key nonce a (sealL key nonce a b) = (b, 0) := by
  unfold openL
  rw [sealL_length, if_neg (by omega)]
  have e1 : (sealL key nonce a b).take (b.length + 16 - 16) = streamL key 1 nonce b := by
    rw [sealL_eq, Nat.add_sub_cancel, List.take_append_of_le_length (by rw [streamL_length]; omega), List.take_of_length_le (by rw [streamL_length]; omega)]
  have e2 : ((sealL key nonce a b).drop (b.length + 16 - 16)).take 16 = tagL key nonce a (streamL key 1 nonce b) := by
    rw [sealL_eq, Nat.add_sub_cancel, List.drop_append_of_le_length (by rw [streamL_length]; omega), List.drop_of_length_le (by rw [streamL_length]; omega), List.nil_append, List.take_of_length_le (by rw [tagL_length]; omega)]
  rw [e1, e2, if_pos rfl, stream_twice key 1 nonce hb]

theorem seal_open (key nonce a : List Int) {b : List Int} (hb : Bytes b) (h : (openL key nonce a b).2 = 0) : sealL key nonce a (openL key nonce a b).1 = b := by
  unfold openL at h ⊢
  by_cases hl : b.length < 16
  · rw [if_pos hl] at h; cases h
  · rw [if_neg hl] at h ⊢
    by_cases ht : tagL key nonce a (b.take (b.length - 16)) = (b.drop (b.length - 16)).take 16
    · rw [if_pos ht]
      simp only
      rw [sealL_eq, stream_twice key 1 nonce (fun x hx => hb x (List.mem_of_mem_take hx)), ht]
      rw [show (b.drop (b.length - 16)).take 16 = b.drop (b.length - 16) from List.take_of_length_le (by rw [List.length_drop]; omega), List.take_append_drop]
    · rw [if_neg ht] at h; cases h

theorem open_cases (key nonce a b : List Int) : (openL key nonce a b).2 = 0 ∨ ((openL key nonce a b).1 = [] ∧ (((openL key nonce a b).2 = 3 ∧ b.length < 16) ∨ ((openL key nonce a b).2 = 121 ∧ ¬ b.length < 16))) := by
  unfold openL
  by_cases hl : b.length < 16
  · rw [if_pos hl]; exact .inr ⟨rfl, .inl ⟨rfl, hl⟩⟩
  · rw [if_neg hl]
    by_cases ht : tagL key nonce a (b.take (b.length - 16)) = (b.drop (b.length - 16)).take 16
    · rw [if_pos ht]; exact .inl rfl
    · rw [if_neg ht]; exact .inr ⟨rfl, .inr ⟨rfl, hl⟩⟩

theorem open_length (key nonce a b : List Int) : (openL key nonce a b).1.length ≤ b.length := by
  unfold openL
  by_cases hl : b.length < 16
  · rw [if_pos hl]; simp
  · rw [if_neg hl]
    by_cases ht : tagL key nonce a (b.take (b.length - 16)) = (b.drop (b.length - 16)).take 16
    · rw [if_pos ht]; simp only; rw [streamL_length, List.length_take]; omega
    · rw [if_neg ht]; simp

end Go.Proofs.Ytiaddnmloonhgaa

/- A case of sealing, opened. -/
namespace Go.Proofs.Ytiaddnmloonhgaa
open Go Go.Eng Go.ChangeShapes Go.WideShapes Go.RowKit
set_option maxRecDepth 100000

theorem own0 : ownKnob Try.prog.godebug = none := by kernel_rfl
theorem laidOut : laidOutB Try.prog = true := by kernel_rfl

theorem bulk_one {H : Type} (d : DataW H) : 1 ≤ Rows.uptoBulk d := by
  cases d with
  | lit l => cases l <;> simp [Rows.uptoBulk]
  | nil => simp [Rows.uptoBulk]
  | ptr d => simp [Rows.uptoBulk]
  | slice elems spare => simp [Rows.uptoBulk]
  | agg parts => simp [Rows.uptoBulk]
  | iface t d => simp [Rows.uptoBulk]
  | map entries => simp [Rows.uptoBulk]
  | held h => simp [Rows.uptoBulk]

theorem bulk_length {H : Type} (l : List (DataW H)) : l.length ≤ Rows.uptoBulkAll l := by
  induction l with
  | nil => simp [Rows.uptoBulkAll]
  | cons x r ih => have := bulk_one x; simp only [Rows.uptoBulkAll, List.length_cons]; omega

theorem bulk_slice {H : Type} {d : DataW H} {len : Nat} (h : (d = .nil ∧ len = 0) ∨ ∃ elems spare, d = .slice elems spare ∧ elems.length = len) : len ≤ Rows.uptoBulk d := by
  rcases h with ⟨rfl, rfl⟩ | ⟨elems, spare, rfl, rfl⟩
  · exact Nat.zero_le _
  · have := bulk_length elems
    simp only [Rows.uptoBulk]; omega

theorem bulk_bound {H : Type} {l : List (DataW H)} (hk : Rows.uptoSmall H l = true) : Rows.uptoBulkAll l ≤ 1048576 := of_decide_eq_true hk

theorem wf_u8 {y : Int} (h : (Lit.int .u8 y).wf = true) : 0 ≤ y ∧ y < 256 := by
  have := bounds_u8 h; omega

section
variable {H : Type} {enc : TypeId × Value → H}

theorem elB (H : Type) (enc : TypeId × Value → H) : IntEl H enc Try.prog 5 .u8 1 := intEl_int Try.underlying5 (by kernel_rfl)

theorem case_open {W : World} {base b0 : Nat} {sp : Nat → Bool} {hd : Bool} {r : Reach} {v : Value} {d : DataW H} {ps : List MemPlace} (hval : Value.okWide Try.prog W r b0 66 v) (h : DataW.Trod enc Try.prog W base sp hd 66 v d ps) (hk : Rows.uptoBulk d ≤ 1048576) :
    ∃ (key nonce op text other : List Int) (at_ by_ : Int) (ρ : Rho), ∀ n, key.length = 32 ∧ nonce.length = 12 ∧ op.length ≤ 1048576 ∧ text.length ≤ 1048576 ∧ other.length ≤ 1048576 ∧ Bytes key ∧ Bytes nonce ∧ Bytes op ∧ Bytes text ∧ Bytes other ∧
      (-9223372036854775808 ≤ at_ ∧ at_ ≤ 9223372036854775807) ∧ (0 ≤ by_ ∧ by_ < 256) ∧
      (1 ≤ n → Sim W ⟨fun _ => False, ρ.loc⟩ ρ (caseS n key nonce op text other at_ by_) { tmps := #[v] ++ Array.replicate (n - 1) undef, defers := [] } W) := by
  obtain ⟨cs, rfl, hcs⟩ := okWide_struct Try.underlying66 hval
  have hcs' : cs.size = 49 := by rw [hcs]; kernel_rfl
  obtain ⟨fuel, h⟩ := h
  obtain ⟨xs, m, rfl, hx, hl, hlen, hf⟩ := DataW.trod_struct Try.underlying66 h
  match xs, hlen with
  | [y0, y1, y2, y3, y4, y5, y6], _ =>
  have g0 : DataW.trod enc Try.prog W base sp hd m 23 ((cs.toList.drop 0).take (Try.prog.cellsOf 23)) = some y0 := hf 0 _ rfl
  have g1 : DataW.trod enc Try.prog W base sp hd m 26 ((cs.toList.drop 32).take (Try.prog.cellsOf 26)) = some y1 := hf 1 _ rfl
  have g2 : DataW.trod enc Try.prog W base sp hd m 27 ((cs.toList.drop 44).take (Try.prog.cellsOf 27)) = some y2 := hf 2 _ rfl
  have g3 : DataW.trod enc Try.prog W base sp hd m 27 ((cs.toList.drop 45).take (Try.prog.cellsOf 27)) = some y3 := hf 3 _ rfl
  have g4 : DataW.trod enc Try.prog W base sp hd m 27 ((cs.toList.drop 46).take (Try.prog.cellsOf 27)) = some y4 := hf 4 _ rfl
  have g5 : DataW.trod enc Try.prog W base sp hd m 3 ((cs.toList.drop 47).take (Try.prog.cellsOf 3)) = some y5 := hf 5 _ rfl
  have g6 : DataW.trod enc Try.prog W base sp hd m 5 ((cs.toList.drop 48).take (Try.prog.cellsOf 5)) = some y6 := hf 6 _ rfl
  rw [show Try.prog.cellsOf 23 = 32 by kernel_rfl] at g0
  rw [show Try.prog.cellsOf 26 = 12 by kernel_rfl] at g1
  rw [show Try.prog.cellsOf 27 = 1 by kernel_rfl] at g2 g3 g4
  rw [show Try.prog.cellsOf 3 = 1 by kernel_rfl] at g5
  rw [show Try.prog.cellsOf 5 = 1 by kernel_rfl] at g6
  obtain ⟨key, k1, k2, k3⟩ := (intEl_array (H := H) (enc := enc) Try.underlying23 (es := 1) (by kernel_rfl) (by omega) (elB H enc)).2 _ _ _ _ _ _ _ g0
  obtain ⟨nonce, n1, n2, n3⟩ := (intEl_array (H := H) (enc := enc) Try.underlying26 (es := 1) (by kernel_rfl) (by omega) (elB H enc)).2 _ _ _ _ _ _ _ g1
  obtain ⟨op, ol, oc, oA, oloc, o1, o2, o3, o4, o5, o6, o7, o8⟩ := open_view Try.underlying27 (by omega) (elB H enc) g2
  obtain ⟨tx, tl, tc, tA, tloc, t1, t2, t3, t4, t5, t6, t7, t8⟩ := open_view Try.underlying27 (by omega) (elB H enc) g3
  obtain ⟨oth, el, ec, eA, eloc, e1, e2, e3, e4, e5, e6, e7, e8⟩ := open_view Try.underlying27 (by omega) (elB H enc) g4
  obtain ⟨at_, a1, _, a2⟩ := DataW.trod_int Try.underlying3 g5
  obtain ⟨by_, b1, _, b2⟩ := DataW.trod_int Try.underlying5 g6
  have hd : d = .agg [y0.1, y1.1, y2.1, y3.1, y4.1, y5.1, y6.1] := by injection hx
  rw [hd] at hk
  simp only [Rows.uptoBulk, Rows.uptoBulkAll] at hk
  have q2 := bulk_slice o8
  have q3 := bulk_slice t8
  have q4 := bulk_slice e8
  have hby : ∀ {l : List Int}, (∀ y ∈ l, (Lit.int .u8 y).wf = true) → Bytes l := fun h x hx => wf_u8 (h x hx)
  refine ⟨key, nonce, op, tx, oth, at_, by_, ⟨locOf [(1000001, oloc), (1000002, tloc), (1000003, eloc)], fun _ => 0⟩, fun n => ⟨by simpa using k2, by simpa using n2, by omega, by omega, by omega, hby k3, hby n3, hby o7, hby t7, hby e7, bounds_i64 a2, wf_u8 b2, fun hn => ?_⟩⟩
  refine sim_start (avs := [.s (.agg [.ints .u8 32 key, .ints .u8 12 nonce, .own 1000001, .own 1000002, .own 1000003, .int .i64 at_, .int .u8 by_])]) rfl hn rfl ?_ ?_ ?_ ⟨?_, trivial⟩
  · simp [caseS, Nodup', putNames]
  · intro j it hi
    simp only [caseS, AS.I, findI_cons] at hi
    split at hi
    · rename_i hj; subst hj; injection hi with hi; subst hi
      exact ⟨_, _, _, rfl, by omega, ⟨ol, o3⟩, o4⟩
    · split at hi
      · rename_i hj; subst hj; injection hi with hi; subst hi
        exact ⟨_, _, _, rfl, by omega, ⟨tl, t3⟩, t4⟩
      · split at hi
        · rename_i hj; subst hj; injection hi with hi; subst hi
          exact ⟨_, _, _, rfl, by omega, ⟨el, e3⟩, e4⟩
        · simp [findI] at hi
  · intro j p hp
    simp only [locOf] at hp
    split at hp
    · exact o6 p hp
    · split at hp
      · exact t6 p hp
      · split at hp
        · exact e6 p hp
        · cases hp
  · refine ⟨cs.toList, by simp, ?_⟩
    have := relL_of (ρ := ⟨locOf [(1000001, oloc), (1000002, tloc), (1000003, eloc)], fun _ => 0⟩) (S := (caseS n key nonce op tx oth at_ by_).S) (off := 0) (cs := cs.toList)
      (l := [(.ints .u8 32 key, 32), (.ints .u8 12 nonce, 12), (.own 1000001, 1), (.own 1000002, 1), (.own 1000003, 1), (.int .i64 at_, 1), (.int .u8 by_, 1)])
      ⟨by simp [hcs'], ⟨k1, by simpa using k2⟩, by simp [hcs'], ⟨n1, by simpa using n2⟩, by simp [hcs'], rel_own rfl o1 o2 o3 o5 (by omega), by simp [hcs'], rel_own rfl t1 t2 t3 t5 (by omega), by simp [hcs'], rel_own rfl e1 e2 e3 e5 (by omega), by simp [hcs'], a1, by simp [hcs'], b1, (show cs.toList.length = 49 by simpa using hcs')⟩
    exact this
end
end Go.Proofs.Ytiaddnmloonhgaa

/- What rime/rimelaw12.SealBack comes to. MADE BY PROGRAM (wip/tools/mkfn.py, EngGen.lean). -/
namespace Go.Proofs.Ytiaddnmloonhgaa
open Go Go.Eng
set_option maxRecDepth 100000
set_option linter.unusedVariables false

def f6_raw {R : Type} (N : Nat) (key : List Int) (nonce : List Int) (op : List Int) (text : List Int) (other : List Int) (at_ : Int) (by_ : Int) (k : List DV → Option R) : Option R :=
 bif op.length.ble Go.Proofs.Ytiaddnmloonhgaa.lim5 && text.length.ble Go.Proofs.Ytiaddnmloonhgaa.lim5 then
 bif op.length.ble Go.Proofs.Ytiaddnmloonhgaa.lim5 && (Go.Proofs.Ytiaddnmloonhgaa.sealL key nonce op text).length.ble Go.Proofs.Ytiaddnmloonhgaa.lim5 then
 bif
 match Bool.false with
 | Bool.true => (Go.Proofs.Ytiaddnmloonhgaa.openL key nonce op (Go.Proofs.Ytiaddnmloonhgaa.sealL key nonce op text)).snd != 0
 | Bool.false => !(Go.Proofs.Ytiaddnmloonhgaa.openL key nonce op (Go.Proofs.Ytiaddnmloonhgaa.sealL key nonce op text)).snd != 0 then
 bif
 match Bool.false with
 | Bool.true => (Go.Proofs.Ytiaddnmloonhgaa.openL key nonce op (Go.Proofs.Ytiaddnmloonhgaa.sealL key nonce op text)).snd != 0
 | Bool.false => !(Go.Proofs.Ytiaddnmloonhgaa.openL key nonce op (Go.Proofs.Ytiaddnmloonhgaa.sealL key nonce op text)).snd != 0 then
 bif
 match Bool.false with
 | Bool.true => (Go.Proofs.Ytiaddnmloonhgaa.openL key nonce op (Go.Proofs.Ytiaddnmloonhgaa.sealL key nonce op text)).snd != 0
 | Bool.false => !(Go.Proofs.Ytiaddnmloonhgaa.openL key nonce op (Go.Proofs.Ytiaddnmloonhgaa.sealL key nonce op text)).snd != 0 then
 bif
 match Bool.false with
 | Bool.true => (Go.Proofs.Ytiaddnmloonhgaa.openL key nonce op (Go.Proofs.Ytiaddnmloonhgaa.sealL key nonce op text)).snd != 0
 | Bool.false => !(Go.Proofs.Ytiaddnmloonhgaa.openL key nonce op (Go.Proofs.Ytiaddnmloonhgaa.sealL key nonce op text)).snd != 0 then
 bif
 match Bool.false with
 | Bool.true => (Go.Proofs.Ytiaddnmloonhgaa.openL key nonce op (Go.Proofs.Ytiaddnmloonhgaa.sealL key nonce op text)).snd != 0
 | Bool.false => !(Go.Proofs.Ytiaddnmloonhgaa.openL key nonce op (Go.Proofs.Ytiaddnmloonhgaa.sealL key nonce op text)).snd != 0 then
 bif
 match Bool.false with
 | Bool.true => (Go.Proofs.Ytiaddnmloonhgaa.openL key nonce op (Go.Proofs.Ytiaddnmloonhgaa.sealL key nonce op text)).snd != 0
 | Bool.false => !(Go.Proofs.Ytiaddnmloonhgaa.openL key nonce op (Go.Proofs.Ytiaddnmloonhgaa.sealL key nonce op text)).snd != 0 then
 bif
 match Bool.false with
 | Bool.true => bif (Go.Proofs.Ytiaddnmloonhgaa.openL key nonce op (Go.Proofs.Ytiaddnmloonhgaa.sealL key nonce op text)).snd != 0 then Bool.true else Go.Eng.nI (Go.Eng.rowLen 1 (Go.Proofs.Ytiaddnmloonhgaa.sealL key nonce op text)) != Go.IntKind.i64.wrap (Go.Eng.nI (Go.Eng.rowLen 1 text) + 16)
 | Bool.false => !bif (Go.Proofs.Ytiaddnmloonhgaa.openL key nonce op (Go.Proofs.Ytiaddnmloonhgaa.sealL key nonce op text)).snd != 0 then Bool.true else Go.Eng.nI (Go.Eng.rowLen 1 (Go.Proofs.Ytiaddnmloonhgaa.sealL key nonce op text)) != Go.IntKind.i64.wrap (Go.Eng.nI (Go.Eng.rowLen 1 text) + 16) then
 bif
 match Bool.false with
 | Bool.true => bif (Go.Proofs.Ytiaddnmloonhgaa.openL key nonce op (Go.Proofs.Ytiaddnmloonhgaa.sealL key nonce op text)).snd != 0 then Bool.true else Go.Eng.nI (Go.Eng.rowLen 1 (Go.Proofs.Ytiaddnmloonhgaa.sealL key nonce op text)) != Go.IntKind.i64.wrap (Go.Eng.nI (Go.Eng.rowLen 1 text) + 16)
 | Bool.false => !bif (Go.Proofs.Ytiaddnmloonhgaa.openL key nonce op (Go.Proofs.Ytiaddnmloonhgaa.sealL key nonce op text)).snd != 0 then Bool.true else Go.Eng.nI (Go.Eng.rowLen 1 (Go.Proofs.Ytiaddnmloonhgaa.sealL key nonce op text)) != Go.IntKind.i64.wrap (Go.Eng.nI (Go.Eng.rowLen 1 text) + 16) then
 bif
 match Bool.false with
 | Bool.true => bif (Go.Proofs.Ytiaddnmloonhgaa.openL key nonce op (Go.Proofs.Ytiaddnmloonhgaa.sealL key nonce op text)).snd != 0 then Bool.true else Go.Eng.nI (Go.Eng.rowLen 1 (Go.Proofs.Ytiaddnmloonhgaa.sealL key nonce op text)) != Go.IntKind.i64.wrap (Go.Eng.nI (Go.Eng.rowLen 1 text) + 16)
 | Bool.false => !bif (Go.Proofs.Ytiaddnmloonhgaa.openL key nonce op (Go.Proofs.Ytiaddnmloonhgaa.sealL key nonce op text)).snd != 0 then Bool.true else Go.Eng.nI (Go.Eng.rowLen 1 (Go.Proofs.Ytiaddnmloonhgaa.sealL key nonce op text)) != Go.IntKind.i64.wrap (Go.Eng.nI (Go.Eng.rowLen 1 text) + 16) then
 bif (Go.Proofs.Ytiaddnmloonhgaa.openL key nonce op (Go.Proofs.Ytiaddnmloonhgaa.sealL key nonce op text)).fst.length.ble Go.Proofs.Ytiaddnmloonhgaa.lim then
 bif
 match Bool.false with
 | Bool.true => bif (Go.Proofs.Ytiaddnmloonhgaa.openL key nonce op (Go.Proofs.Ytiaddnmloonhgaa.sealL key nonce op text)).snd != 0 then Bool.true else Go.Eng.nI (Go.Eng.rowLen 1 (Go.Proofs.Ytiaddnmloonhgaa.sealL key nonce op text)) != Go.IntKind.i64.wrap (Go.Eng.nI (Go.Eng.rowLen 1 text) + 16)
 | Bool.false => !bif (Go.Proofs.Ytiaddnmloonhgaa.openL key nonce op (Go.Proofs.Ytiaddnmloonhgaa.sealL key nonce op text)).snd != 0 then Bool.true else Go.Eng.nI (Go.Eng.rowLen 1 (Go.Proofs.Ytiaddnmloonhgaa.sealL key nonce op text)) != Go.IntKind.i64.wrap (Go.Eng.nI (Go.Eng.rowLen 1 text) + 16) then
 let v0 : Int := Go.IntKind.i64.wrap (Go.Eng.nI (Go.Eng.rowLen 1 text) + 16);
 let v1 : Bool := bif (Go.Proofs.Ytiaddnmloonhgaa.openL key nonce op (Go.Proofs.Ytiaddnmloonhgaa.sealL key nonce op text)).snd != 0 then Bool.true else Go.Eng.nI (Go.Eng.rowLen 1 (Go.Proofs.Ytiaddnmloonhgaa.sealL key nonce op text)) != v0;
 let v2 : Bool := bif v1 then Bool.true else !Decidable.decide ((Go.Proofs.Ytiaddnmloonhgaa.openL key nonce op (Go.Proofs.Ytiaddnmloonhgaa.sealL key nonce op text)).fst = text);
 bif v2 then k [Go.Eng.DV.v (Go.Eng.SV.one (Go.Eng.At.bool Bool.false))]
 else
 bif op.length.ble Go.Proofs.Ytiaddnmloonhgaa.lim5 && other.length.ble Go.Proofs.Ytiaddnmloonhgaa.lim5 then
 bif (Go.Proofs.Ytiaddnmloonhgaa.openL key nonce op other).snd == 0 then
 bif op.length.ble Go.Proofs.Ytiaddnmloonhgaa.lim5 && (Go.Proofs.Ytiaddnmloonhgaa.openL key nonce op other).fst.length.ble Go.Proofs.Ytiaddnmloonhgaa.lim5 then
 bif (Go.Proofs.Ytiaddnmloonhgaa.sealL key nonce op (Go.Proofs.Ytiaddnmloonhgaa.openL key nonce op other).fst).length.ble Go.Proofs.Ytiaddnmloonhgaa.lim then
 bif !Decidable.decide (Go.Proofs.Ytiaddnmloonhgaa.sealL key nonce op (Go.Proofs.Ytiaddnmloonhgaa.openL key nonce op other).fst = other) then k [Go.Eng.DV.v (Go.Eng.SV.one (Go.Eng.At.bool Bool.false))]
 else
 bif Decidable.decide (0 ≤ 1) && (Decidable.decide (1 < 4294967296) && text.length.ble Go.Proofs.Ytiaddnmloonhgaa.lim) then
 bif Go.Proofs.Ytiaddnmloonhgaa.tooFar (Int.toNat 1) text.length then k [Go.Eng.DV.v (Go.Eng.SV.one (Go.Eng.At.bool Bool.false))]
 else
 bif Decidable.decide (0 ≤ 1) && (Decidable.decide (1 < 4294967296) && (Go.Proofs.Ytiaddnmloonhgaa.streamL key (Int.toNat 1) nonce text).length.ble Go.Proofs.Ytiaddnmloonhgaa.lim) then
 bif Go.Proofs.Ytiaddnmloonhgaa.tooFar (Int.toNat 1) (Go.Proofs.Ytiaddnmloonhgaa.streamL key (Int.toNat 1) nonce text).length then k [Go.Eng.DV.v (Go.Eng.SV.one (Go.Eng.At.bool Bool.false))]
 else
 bif (Go.Proofs.Ytiaddnmloonhgaa.streamL key (Int.toNat 1) nonce (Go.Proofs.Ytiaddnmloonhgaa.streamL key (Int.toNat 1) nonce text)).length.ble Go.Proofs.Ytiaddnmloonhgaa.lim then
 bif
 match Bool.true with
 | Bool.true => bif bif 0 == 0 then 0 == 0 else Bool.false then Decidable.decide (Go.Proofs.Ytiaddnmloonhgaa.streamL key (Int.toNat 1) nonce (Go.Proofs.Ytiaddnmloonhgaa.streamL key (Int.toNat 1) nonce text) = text) else Bool.false
 | Bool.false => !bif bif 0 == 0 then 0 == 0 else Bool.false then Decidable.decide (Go.Proofs.Ytiaddnmloonhgaa.streamL key (Int.toNat 1) nonce (Go.Proofs.Ytiaddnmloonhgaa.streamL key (Int.toNat 1) nonce text) = text) else Bool.false then
 bif
 match Bool.true with
 | Bool.true => bif bif 0 == 0 then 0 == 0 else Bool.false then Decidable.decide (Go.Proofs.Ytiaddnmloonhgaa.streamL key (Int.toNat 1) nonce (Go.Proofs.Ytiaddnmloonhgaa.streamL key (Int.toNat 1) nonce text) = text) else Bool.false
 | Bool.false => !bif bif 0 == 0 then 0 == 0 else Bool.false then Decidable.decide (Go.Proofs.Ytiaddnmloonhgaa.streamL key (Int.toNat 1) nonce (Go.Proofs.Ytiaddnmloonhgaa.streamL key (Int.toNat 1) nonce text) = text) else Bool.false then
 bif
 match Bool.true with
 | Bool.true => bif bif 0 == 0 then 0 == 0 else Bool.false then Decidable.decide (Go.Proofs.Ytiaddnmloonhgaa.streamL key (Int.toNat 1) nonce (Go.Proofs.Ytiaddnmloonhgaa.streamL key (Int.toNat 1) nonce text) = text) else Bool.false
 | Bool.false => !bif bif 0 == 0 then 0 == 0 else Bool.false then Decidable.decide (Go.Proofs.Ytiaddnmloonhgaa.streamL key (Int.toNat 1) nonce (Go.Proofs.Ytiaddnmloonhgaa.streamL key (Int.toNat 1) nonce text) = text) else Bool.false then
 bif
 match Bool.true with
 | Bool.true => bif bif 0 == 0 then 0 == 0 else Bool.false then Decidable.decide (Go.Proofs.Ytiaddnmloonhgaa.streamL key (Int.toNat 1) nonce (Go.Proofs.Ytiaddnmloonhgaa.streamL key (Int.toNat 1) nonce text) = text) else Bool.false
 | Bool.false => !bif bif 0 == 0 then 0 == 0 else Bool.false then Decidable.decide (Go.Proofs.Ytiaddnmloonhgaa.streamL key (Int.toNat 1) nonce (Go.Proofs.Ytiaddnmloonhgaa.streamL key (Int.toNat 1) nonce text) = text) else Bool.false then
 bif
 match Bool.true with
 | Bool.true => bif bif 0 == 0 then 0 == 0 else Bool.false then Decidable.decide (Go.Proofs.Ytiaddnmloonhgaa.streamL key (Int.toNat 1) nonce (Go.Proofs.Ytiaddnmloonhgaa.streamL key (Int.toNat 1) nonce text) = text) else Bool.false
 | Bool.false => !bif bif 0 == 0 then 0 == 0 else Bool.false then Decidable.decide (Go.Proofs.Ytiaddnmloonhgaa.streamL key (Int.toNat 1) nonce (Go.Proofs.Ytiaddnmloonhgaa.streamL key (Int.toNat 1) nonce text) = text) else Bool.false then
 bif Go.Eng.hiOk (Option.some (Go.Eng.nI (Go.Eng.rowLen 1 text))) (Go.Eng.rowLen 1 (Go.Proofs.Ytiaddnmloonhgaa.sealL key nonce op text)) then
 bif
 match Bool.true with
 | Bool.true => bif bif 0 == 0 then 0 == 0 else Bool.false then Decidable.decide (Go.Proofs.Ytiaddnmloonhgaa.streamL key (Int.toNat 1) nonce (Go.Proofs.Ytiaddnmloonhgaa.streamL key (Int.toNat 1) nonce text) = text) else Bool.false
 | Bool.false => !bif bif 0 == 0 then 0 == 0 else Bool.false then Decidable.decide (Go.Proofs.Ytiaddnmloonhgaa.streamL key (Int.toNat 1) nonce (Go.Proofs.Ytiaddnmloonhgaa.streamL key (Int.toNat 1) nonce text) = text) else Bool.false then
 bif (Go.Proofs.Ytiaddnmloonhgaa.streamL key (Int.toNat 1) nonce text).length.ble Go.Proofs.Ytiaddnmloonhgaa.lim then
 let v3 : Bool := bif 0 == 0 then 0 == 0 else Bool.false;
 let v4 : Bool := bif v3 then Decidable.decide (Go.Proofs.Ytiaddnmloonhgaa.streamL key (Int.toNat 1) nonce (Go.Proofs.Ytiaddnmloonhgaa.streamL key (Int.toNat 1) nonce text) = text) else Bool.false;
 let v5 : List Int := Go.Eng.sub (Go.Proofs.Ytiaddnmloonhgaa.sealL key nonce op text) (Go.Eng.plusO Go.Eng.Off.z 1 Option.none) (Go.Eng.mulE (Go.Eng.subN (Go.Eng.hiNat (Option.some (Go.Eng.nI (Go.Eng.rowLen 1 text))) (Go.Eng.rowLen 1 (Go.Proofs.Ytiaddnmloonhgaa.sealL key nonce op text))) Option.none) 1);
 let v6 : Bool := bif v4 then Decidable.decide (Go.Proofs.Ytiaddnmloonhgaa.streamL key (Int.toNat 1) nonce text = v5) else Bool.false;
 k [Go.Eng.DV.v (Go.Eng.SV.one (Go.Eng.At.bool v6))]
 else Option.none
 else
 let v7 : Bool := bif 0 == 0 then 0 == 0 else Bool.false;
 let v8 : Bool := bif v7 then Decidable.decide (Go.Proofs.Ytiaddnmloonhgaa.streamL key (Int.toNat 1) nonce (Go.Proofs.Ytiaddnmloonhgaa.streamL key (Int.toNat 1) nonce text) = text) else Bool.false;
 bif v8 then Option.none else k [Go.Eng.DV.v (Go.Eng.SV.one (Go.Eng.At.bool Bool.false))]
 else Option.none
 else
 bif
 match Bool.true with
 | Bool.true => bif bif 0 == 0 then 0 == 0 else Bool.false then Decidable.decide (Go.Proofs.Ytiaddnmloonhgaa.streamL key (Int.toNat 1) nonce (Go.Proofs.Ytiaddnmloonhgaa.streamL key (Int.toNat 1) nonce text) = text) else Bool.false
 | Bool.false => !bif bif 0 == 0 then 0 == 0 else Bool.false then Decidable.decide (Go.Proofs.Ytiaddnmloonhgaa.streamL key (Int.toNat 1) nonce (Go.Proofs.Ytiaddnmloonhgaa.streamL key (Int.toNat 1) nonce text) = text) else Bool.false then
 Option.none
 else
 let v9 : Bool := bif 0 == 0 then 0 == 0 else Bool.false;
 let v10 : Bool := bif v9 then Decidable.decide (Go.Proofs.Ytiaddnmloonhgaa.streamL key (Int.toNat 1) nonce (Go.Proofs.Ytiaddnmloonhgaa.streamL key (Int.toNat 1) nonce text) = text) else Bool.false;
 bif v10 then Option.none else k [Go.Eng.DV.v (Go.Eng.SV.one (Go.Eng.At.bool Bool.false))]
 else
 bif
 match Bool.true with
 | Bool.true => bif bif 0 == 0 then 0 == 0 else Bool.false then Decidable.decide (Go.Proofs.Ytiaddnmloonhgaa.streamL key (Int.toNat 1) nonce (Go.Proofs.Ytiaddnmloonhgaa.streamL key (Int.toNat 1) nonce text) = text) else Bool.false
 | Bool.false => !bif bif 0 == 0 then 0 == 0 else Bool.false then Decidable.decide (Go.Proofs.Ytiaddnmloonhgaa.streamL key (Int.toNat 1) nonce (Go.Proofs.Ytiaddnmloonhgaa.streamL key (Int.toNat 1) nonce text) = text) else Bool.false then
 Option.none
 else
 bif
 match Bool.true with
 | Bool.true => bif bif 0 == 0 then 0 == 0 else Bool.false then Decidable.decide (Go.Proofs.Ytiaddnmloonhgaa.streamL key (Int.toNat 1) nonce (Go.Proofs.Ytiaddnmloonhgaa.streamL key (Int.toNat 1) nonce text) = text) else Bool.false
 | Bool.false => !bif bif 0 == 0 then 0 == 0 else Bool.false then Decidable.decide (Go.Proofs.Ytiaddnmloonhgaa.streamL key (Int.toNat 1) nonce (Go.Proofs.Ytiaddnmloonhgaa.streamL key (Int.toNat 1) nonce text) = text) else Bool.false then
 Option.none
 else
 let v11 : Bool := bif 0 == 0 then 0 == 0 else Bool.false;
 let v12 : Bool := bif v11 then Decidable.decide (Go.Proofs.Ytiaddnmloonhgaa.streamL key (Int.toNat 1) nonce (Go.Proofs.Ytiaddnmloonhgaa.streamL key (Int.toNat 1) nonce text) = text) else Bool.false;
 bif v12 then Option.none else k [Go.Eng.DV.v (Go.Eng.SV.one (Go.Eng.At.bool Bool.false))]
 else
 bif
 match Bool.true with
 | Bool.true => bif bif 0 == 0 then 0 == 0 else Bool.false then Decidable.decide (Go.Proofs.Ytiaddnmloonhgaa.streamL key (Int.toNat 1) nonce (Go.Proofs.Ytiaddnmloonhgaa.streamL key (Int.toNat 1) nonce text) = text) else Bool.false
 | Bool.false => !bif bif 0 == 0 then 0 == 0 else Bool.false then Decidable.decide (Go.Proofs.Ytiaddnmloonhgaa.streamL key (Int.toNat 1) nonce (Go.Proofs.Ytiaddnmloonhgaa.streamL key (Int.toNat 1) nonce text) = text) else Bool.false then
 Option.none
 else
 bif
 match Bool.true with
 | Bool.true => bif bif 0 == 0 then 0 == 0 else Bool.false then Decidable.decide (Go.Proofs.Ytiaddnmloonhgaa.streamL key (Int.toNat 1) nonce (Go.Proofs.Ytiaddnmloonhgaa.streamL key (Int.toNat 1) nonce text) = text) else Bool.false
 | Bool.false => !bif bif 0 == 0 then 0 == 0 else Bool.false then Decidable.decide (Go.Proofs.Ytiaddnmloonhgaa.streamL key (Int.toNat 1) nonce (Go.Proofs.Ytiaddnmloonhgaa.streamL key (Int.toNat 1) nonce text) = text) else Bool.false then
 Option.none
 else
 bif
 match Bool.true with
 | Bool.true => bif bif 0 == 0 then 0 == 0 else Bool.false then Decidable.decide (Go.Proofs.Ytiaddnmloonhgaa.streamL key (Int.toNat 1) nonce (Go.Proofs.Ytiaddnmloonhgaa.streamL key (Int.toNat 1) nonce text) = text) else Bool.false
 | Bool.false => !bif bif 0 == 0 then 0 == 0 else Bool.false then Decidable.decide (Go.Proofs.Ytiaddnmloonhgaa.streamL key (Int.toNat 1) nonce (Go.Proofs.Ytiaddnmloonhgaa.streamL key (Int.toNat 1) nonce text) = text) else Bool.false then
 Option.none
 else
 let v13 : Bool := bif 0 == 0 then 0 == 0 else Bool.false;
 let v14 : Bool := bif v13 then Decidable.decide (Go.Proofs.Ytiaddnmloonhgaa.streamL key (Int.toNat 1) nonce (Go.Proofs.Ytiaddnmloonhgaa.streamL key (Int.toNat 1) nonce text) = text) else Bool.false;
 bif v14 then Option.none else k [Go.Eng.DV.v (Go.Eng.SV.one (Go.Eng.At.bool Bool.false))]
 else
 bif
 match Bool.true with
 | Bool.true => bif bif 0 == 0 then 0 == 0 else Bool.false then Decidable.decide (Go.Proofs.Ytiaddnmloonhgaa.streamL key (Int.toNat 1) nonce (Go.Proofs.Ytiaddnmloonhgaa.streamL key (Int.toNat 1) nonce text) = text) else Bool.false
 | Bool.false => !bif bif 0 == 0 then 0 == 0 else Bool.false then Decidable.decide (Go.Proofs.Ytiaddnmloonhgaa.streamL key (Int.toNat 1) nonce (Go.Proofs.Ytiaddnmloonhgaa.streamL key (Int.toNat 1) nonce text) = text) else Bool.false then
 bif
 match Bool.true with
 | Bool.true => bif bif 0 == 0 then 0 == 0 else Bool.false then Decidable.decide (Go.Proofs.Ytiaddnmloonhgaa.streamL key (Int.toNat 1) nonce (Go.Proofs.Ytiaddnmloonhgaa.streamL key (Int.toNat 1) nonce text) = text) else Bool.false
 | Bool.false => !bif bif 0 == 0 then 0 == 0 else Bool.false then Decidable.decide (Go.Proofs.Ytiaddnmloonhgaa.streamL key (Int.toNat 1) nonce (Go.Proofs.Ytiaddnmloonhgaa.streamL key (Int.toNat 1) nonce text) = text) else Bool.false then
 bif
 match Bool.true with
 | Bool.true => bif bif 0 == 0 then 0 == 0 else Bool.false then Decidable.decide (Go.Proofs.Ytiaddnmloonhgaa.streamL key (Int.toNat 1) nonce (Go.Proofs.Ytiaddnmloonhgaa.streamL key (Int.toNat 1) nonce text) = text) else Bool.false
 | Bool.false => !bif bif 0 == 0 then 0 == 0 else Bool.false then Decidable.decide (Go.Proofs.Ytiaddnmloonhgaa.streamL key (Int.toNat 1) nonce (Go.Proofs.Ytiaddnmloonhgaa.streamL key (Int.toNat 1) nonce text) = text) else Bool.false then
 Option.none
 else
 bif
 match Bool.true with
 | Bool.true => bif bif 0 == 0 then 0 == 0 else Bool.false then Decidable.decide (Go.Proofs.Ytiaddnmloonhgaa.streamL key (Int.toNat 1) nonce (Go.Proofs.Ytiaddnmloonhgaa.streamL key (Int.toNat 1) nonce text) = text) else Bool.false
 | Bool.false => !bif bif 0 == 0 then 0 == 0 else Bool.false then Decidable.decide (Go.Proofs.Ytiaddnmloonhgaa.streamL key (Int.toNat 1) nonce (Go.Proofs.Ytiaddnmloonhgaa.streamL key (Int.toNat 1) nonce text) = text) else Bool.false then
 Option.none
 else
 let v15 : Bool := bif 0 == 0 then 0 == 0 else Bool.false;
 let v16 : Bool := bif v15 then Decidable.decide (Go.Proofs.Ytiaddnmloonhgaa.streamL key (Int.toNat 1) nonce (Go.Proofs.Ytiaddnmloonhgaa.streamL key (Int.toNat 1) nonce text) = text) else Bool.false;
 bif v16 then Option.none else k [Go.Eng.DV.v (Go.Eng.SV.one (Go.Eng.At.bool Bool.false))]
 else
 bif
 match Bool.true with
 | Bool.true => bif bif 0 == 0 then 0 == 0 else Bool.false then Decidable.decide (Go.Proofs.Ytiaddnmloonhgaa.streamL key (Int.toNat 1) nonce (Go.Proofs.Ytiaddnmloonhgaa.streamL key (Int.toNat 1) nonce text) = text) else Bool.false
 | Bool.false => !bif bif 0 == 0 then 0 == 0 else Bool.false then Decidable.decide (Go.Proofs.Ytiaddnmloonhgaa.streamL key (Int.toNat 1) nonce (Go.Proofs.Ytiaddnmloonhgaa.streamL key (Int.toNat 1) nonce text) = text) else Bool.false then
 Option.none
 else
 bif
 match Bool.true with
 | Bool.true => bif bif 0 == 0 then 0 == 0 else Bool.false then Decidable.decide (Go.Proofs.Ytiaddnmloonhgaa.streamL key (Int.toNat 1) nonce (Go.Proofs.Ytiaddnmloonhgaa.streamL key (Int.toNat 1) nonce text) = text) else Bool.false
 | Bool.false => !bif bif 0 == 0 then 0 == 0 else Bool.false then Decidable.decide (Go.Proofs.Ytiaddnmloonhgaa.streamL key (Int.toNat 1) nonce (Go.Proofs.Ytiaddnmloonhgaa.streamL key (Int.toNat 1) nonce text) = text) else Bool.false then
 Option.none
 else
 let v17 : Bool := bif 0 == 0 then 0 == 0 else Bool.false;
 let v18 : Bool := bif v17 then Decidable.decide (Go.Proofs.Ytiaddnmloonhgaa.streamL key (Int.toNat 1) nonce (Go.Proofs.Ytiaddnmloonhgaa.streamL key (Int.toNat 1) nonce text) = text) else Bool.false;
 bif v18 then Option.none else k [Go.Eng.DV.v (Go.Eng.SV.one (Go.Eng.At.bool Bool.false))]
 else
 bif
 match Bool.true with
 | Bool.true => bif bif 0 == 0 then 0 == 0 else Bool.false then Decidable.decide (Go.Proofs.Ytiaddnmloonhgaa.streamL key (Int.toNat 1) nonce (Go.Proofs.Ytiaddnmloonhgaa.streamL key (Int.toNat 1) nonce text) = text) else Bool.false
 | Bool.false => !bif bif 0 == 0 then 0 == 0 else Bool.false then Decidable.decide (Go.Proofs.Ytiaddnmloonhgaa.streamL key (Int.toNat 1) nonce (Go.Proofs.Ytiaddnmloonhgaa.streamL key (Int.toNat 1) nonce text) = text) else Bool.false then
 Option.none
 else
 bif
 match Bool.true with
 | Bool.true => bif bif 0 == 0 then 0 == 0 else Bool.false then Decidable.decide (Go.Proofs.Ytiaddnmloonhgaa.streamL key (Int.toNat 1) nonce (Go.Proofs.Ytiaddnmloonhgaa.streamL key (Int.toNat 1) nonce text) = text) else Bool.false
 | Bool.false => !bif bif 0 == 0 then 0 == 0 else Bool.false then Decidable.decide (Go.Proofs.Ytiaddnmloonhgaa.streamL key (Int.toNat 1) nonce (Go.Proofs.Ytiaddnmloonhgaa.streamL key (Int.toNat 1) nonce text) = text) else Bool.false then
 Option.none
 else
 bif
 match Bool.true with
 | Bool.true => bif bif 0 == 0 then 0 == 0 else Bool.false then Decidable.decide (Go.Proofs.Ytiaddnmloonhgaa.streamL key (Int.toNat 1) nonce (Go.Proofs.Ytiaddnmloonhgaa.streamL key (Int.toNat 1) nonce text) = text) else Bool.false
 | Bool.false => !bif bif 0 == 0 then 0 == 0 else Bool.false then Decidable.decide (Go.Proofs.Ytiaddnmloonhgaa.streamL key (Int.toNat 1) nonce (Go.Proofs.Ytiaddnmloonhgaa.streamL key (Int.toNat 1) nonce text) = text) else Bool.false then
 Option.none
 else
 let v19 : Bool := bif 0 == 0 then 0 == 0 else Bool.false;
 let v20 : Bool := bif v19 then Decidable.decide (Go.Proofs.Ytiaddnmloonhgaa.streamL key (Int.toNat 1) nonce (Go.Proofs.Ytiaddnmloonhgaa.streamL key (Int.toNat 1) nonce text) = text) else Bool.false;
 bif v20 then Option.none else k [Go.Eng.DV.v (Go.Eng.SV.one (Go.Eng.At.bool Bool.false))]
 else
 bif
 match Bool.true with
 | Bool.true => bif bif 0 == 0 then 0 == 0 else Bool.false then Decidable.decide (Go.Proofs.Ytiaddnmloonhgaa.streamL key (Int.toNat 1) nonce (Go.Proofs.Ytiaddnmloonhgaa.streamL key (Int.toNat 1) nonce text) = text) else Bool.false
 | Bool.false => !bif bif 0 == 0 then 0 == 0 else Bool.false then Decidable.decide (Go.Proofs.Ytiaddnmloonhgaa.streamL key (Int.toNat 1) nonce (Go.Proofs.Ytiaddnmloonhgaa.streamL key (Int.toNat 1) nonce text) = text) else Bool.false then
 bif
 match Bool.true with
 | Bool.true => bif bif 0 == 0 then 0 == 0 else Bool.false then Decidable.decide (Go.Proofs.Ytiaddnmloonhgaa.streamL key (Int.toNat 1) nonce (Go.Proofs.Ytiaddnmloonhgaa.streamL key (Int.toNat 1) nonce text) = text) else Bool.false
 | Bool.false => !bif bif 0 == 0 then 0 == 0 else Bool.false then Decidable.decide (Go.Proofs.Ytiaddnmloonhgaa.streamL key (Int.toNat 1) nonce (Go.Proofs.Ytiaddnmloonhgaa.streamL key (Int.toNat 1) nonce text) = text) else Bool.false then
 bif
 match Bool.true with
 | Bool.true => bif bif 0 == 0 then 0 == 0 else Bool.false then Decidable.decide (Go.Proofs.Ytiaddnmloonhgaa.streamL key (Int.toNat 1) nonce (Go.Proofs.Ytiaddnmloonhgaa.streamL key (Int.toNat 1) nonce text) = text) else Bool.false
 | Bool.false => !bif bif 0 == 0 then 0 == 0 else Bool.false then Decidable.decide (Go.Proofs.Ytiaddnmloonhgaa.streamL key (Int.toNat 1) nonce (Go.Proofs.Ytiaddnmloonhgaa.streamL key (Int.toNat 1) nonce text) = text) else Bool.false then
 bif
 match Bool.true with
 | Bool.true => bif bif 0 == 0 then 0 == 0 else Bool.false then Decidable.decide (Go.Proofs.Ytiaddnmloonhgaa.streamL key (Int.toNat 1) nonce (Go.Proofs.Ytiaddnmloonhgaa.streamL key (Int.toNat 1) nonce text) = text) else Bool.false
 | Bool.false => !bif bif 0 == 0 then 0 == 0 else Bool.false then Decidable.decide (Go.Proofs.Ytiaddnmloonhgaa.streamL key (Int.toNat 1) nonce (Go.Proofs.Ytiaddnmloonhgaa.streamL key (Int.toNat 1) nonce text) = text) else Bool.false then
 bif Go.Eng.hiOk (Option.some (Go.Eng.nI (Go.Eng.rowLen 1 text))) (Go.Eng.rowLen 1 (Go.Proofs.Ytiaddnmloonhgaa.sealL key nonce op text)) then
 bif
 match Bool.true with
 | Bool.true => bif bif 0 == 0 then 0 == 0 else Bool.false then Decidable.decide (Go.Proofs.Ytiaddnmloonhgaa.streamL key (Int.toNat 1) nonce (Go.Proofs.Ytiaddnmloonhgaa.streamL key (Int.toNat 1) nonce text) = text) else Bool.false
 | Bool.false => !bif bif 0 == 0 then 0 == 0 else Bool.false then Decidable.decide (Go.Proofs.Ytiaddnmloonhgaa.streamL key (Int.toNat 1) nonce (Go.Proofs.Ytiaddnmloonhgaa.streamL key (Int.toNat 1) nonce text) = text) else Bool.false then
 Option.none
 else
 let v21 : Bool := bif 0 == 0 then 0 == 0 else Bool.false;
 let v22 : Bool := bif v21 then Decidable.decide (Go.Proofs.Ytiaddnmloonhgaa.streamL key (Int.toNat 1) nonce (Go.Proofs.Ytiaddnmloonhgaa.streamL key (Int.toNat 1) nonce text) = text) else Bool.false;
 bif v22 then Option.none else k [Go.Eng.DV.v (Go.Eng.SV.one (Go.Eng.At.bool Bool.false))]
 else Option.none
 else
 bif
 match Bool.true with
 | Bool.true => bif bif 0 == 0 then 0 == 0 else Bool.false then Decidable.decide (Go.Proofs.Ytiaddnmloonhgaa.streamL key (Int.toNat 1) nonce (Go.Proofs.Ytiaddnmloonhgaa.streamL key (Int.toNat 1) nonce text) = text) else Bool.false
 | Bool.false => !bif bif 0 == 0 then 0 == 0 else Bool.false then Decidable.decide (Go.Proofs.Ytiaddnmloonhgaa.streamL key (Int.toNat 1) nonce (Go.Proofs.Ytiaddnmloonhgaa.streamL key (Int.toNat 1) nonce text) = text) else Bool.false then
 Option.none
 else
 let v23 : Bool := bif 0 == 0 then 0 == 0 else Bool.false;
 let v24 : Bool := bif v23 then Decidable.decide (Go.Proofs.Ytiaddnmloonhgaa.streamL key (Int.toNat 1) nonce (Go.Proofs.Ytiaddnmloonhgaa.streamL key (Int.toNat 1) nonce text) = text) else Bool.false;
 bif v24 then Option.none else k [Go.Eng.DV.v (Go.Eng.SV.one (Go.Eng.At.bool Bool.false))]
 else
 bif
 match Bool.true with
 | Bool.true => bif bif 0 == 0 then 0 == 0 else Bool.false then Decidable.decide (Go.Proofs.Ytiaddnmloonhgaa.streamL key (Int.toNat 1) nonce (Go.Proofs.Ytiaddnmloonhgaa.streamL key (Int.toNat 1) nonce text) = text) else Bool.false
 | Bool.false => !bif bif 0 == 0 then 0 == 0 else Bool.false then Decidable.decide (Go.Proofs.Ytiaddnmloonhgaa.streamL key (Int.toNat 1) nonce (Go.Proofs.Ytiaddnmloonhgaa.streamL key (Int.toNat 1) nonce text) = text) else Bool.false then
 Option.none
 else
 bif
 match Bool.true with
 | Bool.true => bif bif 0 == 0 then 0 == 0 else Bool.false then Decidable.decide (Go.Proofs.Ytiaddnmloonhgaa.streamL key (Int.toNat 1) nonce (Go.Proofs.Ytiaddnmloonhgaa.streamL key (Int.toNat 1) nonce text) = text) else Bool.false
 | Bool.false => !bif bif 0 == 0 then 0 == 0 else Bool.false then Decidable.decide (Go.Proofs.Ytiaddnmloonhgaa.streamL key (Int.toNat 1) nonce (Go.Proofs.Ytiaddnmloonhgaa.streamL key (Int.toNat 1) nonce text) = text) else Bool.false then
 Option.none
 else
 let v25 : Bool := bif 0 == 0 then 0 == 0 else Bool.false;
 let v26 : Bool := bif v25 then Decidable.decide (Go.Proofs.Ytiaddnmloonhgaa.streamL key (Int.toNat 1) nonce (Go.Proofs.Ytiaddnmloonhgaa.streamL key (Int.toNat 1) nonce text) = text) else Bool.false;
 bif v26 then Option.none else k [Go.Eng.DV.v (Go.Eng.SV.one (Go.Eng.At.bool Bool.false))]
 else
 bif
 match Bool.true with
 | Bool.true => bif bif 0 == 0 then 0 == 0 else Bool.false then Decidable.decide (Go.Proofs.Ytiaddnmloonhgaa.streamL key (Int.toNat 1) nonce (Go.Proofs.Ytiaddnmloonhgaa.streamL key (Int.toNat 1) nonce text) = text) else Bool.false
 | Bool.false => !bif bif 0 == 0 then 0 == 0 else Bool.false then Decidable.decide (Go.Proofs.Ytiaddnmloonhgaa.streamL key (Int.toNat 1) nonce (Go.Proofs.Ytiaddnmloonhgaa.streamL key (Int.toNat 1) nonce text) = text) else Bool.false then
 Option.none
 else
 bif
 match Bool.true with
 | Bool.true => bif bif 0 == 0 then 0 == 0 else Bool.false then Decidable.decide (Go.Proofs.Ytiaddnmloonhgaa.streamL key (Int.toNat 1) nonce (Go.Proofs.Ytiaddnmloonhgaa.streamL key (Int.toNat 1) nonce text) = text) else Bool.false
 | Bool.false => !bif bif 0 == 0 then 0 == 0 else Bool.false then Decidable.decide (Go.Proofs.Ytiaddnmloonhgaa.streamL key (Int.toNat 1) nonce (Go.Proofs.Ytiaddnmloonhgaa.streamL key (Int.toNat 1) nonce text) = text) else Bool.false then
 Option.none
 else
 bif
 match Bool.true with
 | Bool.true => bif bif 0 == 0 then 0 == 0 else Bool.false then Decidable.decide (Go.Proofs.Ytiaddnmloonhgaa.streamL key (Int.toNat 1) nonce (Go.Proofs.Ytiaddnmloonhgaa.streamL key (Int.toNat 1) nonce text) = text) else Bool.false
 | Bool.false => !bif bif 0 == 0 then 0 == 0 else Bool.false then Decidable.decide (Go.Proofs.Ytiaddnmloonhgaa.streamL key (Int.toNat 1) nonce (Go.Proofs.Ytiaddnmloonhgaa.streamL key (Int.toNat 1) nonce text) = text) else Bool.false then
 Option.none
 else
 let v27 : Bool := bif 0 == 0 then 0 == 0 else Bool.false;
 let v28 : Bool := bif v27 then Decidable.decide (Go.Proofs.Ytiaddnmloonhgaa.streamL key (Int.toNat 1) nonce (Go.Proofs.Ytiaddnmloonhgaa.streamL key (Int.toNat 1) nonce text) = text) else Bool.false;
 bif v28 then Option.none else k [Go.Eng.DV.v (Go.Eng.SV.one (Go.Eng.At.bool Bool.false))]
 else
 bif
 match Bool.true with
 | Bool.true => bif bif 0 == 0 then 0 == 0 else Bool.false then Decidable.decide (Go.Proofs.Ytiaddnmloonhgaa.streamL key (Int.toNat 1) nonce (Go.Proofs.Ytiaddnmloonhgaa.streamL key (Int.toNat 1) nonce text) = text) else Bool.false
 | Bool.false => !bif bif 0 == 0 then 0 == 0 else Bool.false then Decidable.decide (Go.Proofs.Ytiaddnmloonhgaa.streamL key (Int.toNat 1) nonce (Go.Proofs.Ytiaddnmloonhgaa.streamL key (Int.toNat 1) nonce text) = text) else Bool.false then
 bif
 match Bool.true with
 | Bool.true => bif bif 0 == 0 then 0 == 0 else Bool.false then Decidable.decide (Go.Proofs.Ytiaddnmloonhgaa.streamL key (Int.toNat 1) nonce (Go.Proofs.Ytiaddnmloonhgaa.streamL key (Int.toNat 1) nonce text) = text) else Bool.false
 | Bool.false => !bif bif 0 == 0 then 0 == 0 else Bool.false then Decidable.decide (Go.Proofs.Ytiaddnmloonhgaa.streamL key (Int.toNat 1) nonce (Go.Proofs.Ytiaddnmloonhgaa.streamL key (Int.toNat 1) nonce text) = text) else Bool.false then
 bif
 match Bool.true with
 | Bool.true => bif bif 0 == 0 then 0 == 0 else Bool.false then Decidable.decide (Go.Proofs.Ytiaddnmloonhgaa.streamL key (Int.toNat 1) nonce (Go.Proofs.Ytiaddnmloonhgaa.streamL key (Int.toNat 1) nonce text) = text) else Bool.false
 | Bool.false => !bif bif 0 == 0 then 0 == 0 else Bool.false then Decidable.decide (Go.Proofs.Ytiaddnmloonhgaa.streamL key (Int.toNat 1) nonce (Go.Proofs.Ytiaddnmloonhgaa.streamL key (Int.toNat 1) nonce text) = text) else Bool.false then
 Option.none
 else
 bif
 match Bool.true with
 | Bool.true => bif bif 0 == 0 then 0 == 0 else Bool.false then Decidable.decide (Go.Proofs.Ytiaddnmloonhgaa.streamL key (Int.toNat 1) nonce (Go.Proofs.Ytiaddnmloonhgaa.streamL key (Int.toNat 1) nonce text) = text) else Bool.false
 | Bool.false => !bif bif 0 == 0 then 0 == 0 else Bool.false then Decidable.decide (Go.Proofs.Ytiaddnmloonhgaa.streamL key (Int.toNat 1) nonce (Go.Proofs.Ytiaddnmloonhgaa.streamL key (Int.toNat 1) nonce text) = text) else Bool.false then
 Option.none
 else
 let v29 : Bool := bif 0 == 0 then 0 == 0 else Bool.false;
 let v30 : Bool := bif v29 then Decidable.decide (Go.Proofs.Ytiaddnmloonhgaa.streamL key (Int.toNat 1) nonce (Go.Proofs.Ytiaddnmloonhgaa.streamL key (Int.toNat 1) nonce text) = text) else Bool.false;
 bif v30 then Option.none else k [Go.Eng.DV.v (Go.Eng.SV.one (Go.Eng.At.bool Bool.false))]
 else
 bif
 match Bool.true with
 | Bool.true => bif bif 0 == 0 then 0 == 0 else Bool.false then Decidable.decide (Go.Proofs.Ytiaddnmloonhgaa.streamL key (Int.toNat 1) nonce (Go.Proofs.Ytiaddnmloonhgaa.streamL key (Int.toNat 1) nonce text) = text) else Bool.false
 | Bool.false => !bif bif 0 == 0 then 0 == 0 else Bool.false then Decidable.decide (Go.Proofs.Ytiaddnmloonhgaa.streamL key (Int.toNat 1) nonce (Go.Proofs.Ytiaddnmloonhgaa.streamL key (Int.toNat 1) nonce text) = text) else Bool.false then
 Option.none
 else
 bif
 match Bool.true with
 | Bool.true => bif bif 0 == 0 then 0 == 0 else Bool.false then Decidable.decide (Go.Proofs.Ytiaddnmloonhgaa.streamL key (Int.toNat 1) nonce (Go.Proofs.Ytiaddnmloonhgaa.streamL key (Int.toNat 1) nonce text) = text) else Bool.false
 | Bool.false => !bif bif 0 == 0 then 0 == 0 else Bool.false then Decidable.decide (Go.Proofs.Ytiaddnmloonhgaa.streamL key (Int.toNat 1) nonce (Go.Proofs.Ytiaddnmloonhgaa.streamL key (Int.toNat 1) nonce text) = text) else Bool.false then
 Option.none
 else
 let v31 : Bool := bif 0 == 0 then 0 == 0 else Bool.false;
 let v32 : Bool := bif v31 then Decidable.decide (Go.Proofs.Ytiaddnmloonhgaa.streamL key (Int.toNat 1) nonce (Go.Proofs.Ytiaddnmloonhgaa.streamL key (Int.toNat 1) nonce text) = text) else Bool.false;
 bif v32 then Option.none else k [Go.Eng.DV.v (Go.Eng.SV.one (Go.Eng.At.bool Bool.false))]
 else
 bif
 match Bool.true with
 | Bool.true => bif bif 0 == 0 then 0 == 0 else Bool.false then Decidable.decide (Go.Proofs.Ytiaddnmloonhgaa.streamL key (Int.toNat 1) nonce (Go.Proofs.Ytiaddnmloonhgaa.streamL key (Int.toNat 1) nonce text) = text) else Bool.false
 | Bool.false => !bif bif 0 == 0 then 0 == 0 else Bool.false then Decidable.decide (Go.Proofs.Ytiaddnmloonhgaa.streamL key (Int.toNat 1) nonce (Go.Proofs.Ytiaddnmloonhgaa.streamL key (Int.toNat 1) nonce text) = text) else Bool.false then
 Option.none
 else
 bif
 match Bool.true with
 | Bool.true => bif bif 0 == 0 then 0 == 0 else Bool.false then Decidable.decide (Go.Proofs.Ytiaddnmloonhgaa.streamL key (Int.toNat 1) nonce (Go.Proofs.Ytiaddnmloonhgaa.streamL key (Int.toNat 1) nonce text) = text) else Bool.false
 | Bool.false => !bif bif 0 == 0 then 0 == 0 else Bool.false then Decidable.decide (Go.Proofs.Ytiaddnmloonhgaa.streamL key (Int.toNat 1) nonce (Go.Proofs.Ytiaddnmloonhgaa.streamL key (Int.toNat 1) nonce text) = text) else Bool.false then
 Option.none
 else
 bif
 match Bool.true with
 | Bool.true => bif bif 0 == 0 then 0 == 0 else Bool.false then Decidable.decide (Go.Proofs.Ytiaddnmloonhgaa.streamL key (Int.toNat 1) nonce (Go.Proofs.Ytiaddnmloonhgaa.streamL key (Int.toNat 1) nonce text) = text) else Bool.false
 | Bool.false => !bif bif 0 == 0 then 0 == 0 else Bool.false then Decidable.decide (Go.Proofs.Ytiaddnmloonhgaa.streamL key (Int.toNat 1) nonce (Go.Proofs.Ytiaddnmloonhgaa.streamL key (Int.toNat 1) nonce text) = text) else Bool.false then
 Option.none
 else
 let v33 : Bool := bif 0 == 0 then 0 == 0 else Bool.false;
 let v34 : Bool := bif v33 then Decidable.decide (Go.Proofs.Ytiaddnmloonhgaa.streamL key (Int.toNat 1) nonce (Go.Proofs.Ytiaddnmloonhgaa.streamL key (Int.toNat 1) nonce text) = text) else Bool.false;
 bif v34 then Option.none else k [Go.Eng.DV.v (Go.Eng.SV.one (Go.Eng.At.bool Bool.false))]
 else Option.none
 else Option.none
 else Option.none
 else Option.none
 else Option.none
 else
 bif
 match Bool.false with
 | Bool.true => Go.Eng.nI (Go.Eng.rowLen 1 (Go.Proofs.Ytiaddnmloonhgaa.openL key nonce op other).fst) != 0
 | Bool.false => !Go.Eng.nI (Go.Eng.rowLen 1 (Go.Proofs.Ytiaddnmloonhgaa.openL key nonce op other).fst) != 0 then
 bif
 match Bool.false with
 | Bool.true => Go.Eng.nI (Go.Eng.rowLen 1 (Go.Proofs.Ytiaddnmloonhgaa.openL key nonce op other).fst) != 0
 | Bool.false => !Go.Eng.nI (Go.Eng.rowLen 1 (Go.Proofs.Ytiaddnmloonhgaa.openL key nonce op other).fst) != 0 then
 bif
 match Bool.false with
 | Bool.true => Go.Eng.nI (Go.Eng.rowLen 1 (Go.Proofs.Ytiaddnmloonhgaa.openL key nonce op other).fst) != 0
 | Bool.false => !Go.Eng.nI (Go.Eng.rowLen 1 (Go.Proofs.Ytiaddnmloonhgaa.openL key nonce op other).fst) != 0 then
 bif
 match Bool.true with
 | Bool.true => (Go.Proofs.Ytiaddnmloonhgaa.openL key nonce op other).snd != 3
 | Bool.false => !(Go.Proofs.Ytiaddnmloonhgaa.openL key nonce op other).snd != 3 then
 bif
 match Bool.true with
 | Bool.true => (Go.Proofs.Ytiaddnmloonhgaa.openL key nonce op other).snd != 3
 | Bool.false => !(Go.Proofs.Ytiaddnmloonhgaa.openL key nonce op other).snd != 3 then
 bif
 match Bool.false with
 | Bool.true => Go.Eng.nI (Go.Eng.rowLen 1 (Go.Proofs.Ytiaddnmloonhgaa.openL key nonce op other).fst) != 0
 | Bool.false => !Go.Eng.nI (Go.Eng.rowLen 1 (Go.Proofs.Ytiaddnmloonhgaa.openL key nonce op other).fst) != 0 then
 bif
 match Bool.false with
 | Bool.true => bif Go.Eng.nI (Go.Eng.rowLen 1 (Go.Proofs.Ytiaddnmloonhgaa.openL key nonce op other).fst) != 0 then Bool.true else bif (Go.Proofs.Ytiaddnmloonhgaa.openL key nonce op other).snd != 3 then (Go.Proofs.Ytiaddnmloonhgaa.openL key nonce op other).snd != 121 else Bool.false
 | Bool.false => !bif Go.Eng.nI (Go.Eng.rowLen 1 (Go.Proofs.Ytiaddnmloonhgaa.openL key nonce op other).fst) != 0 then Bool.true else bif (Go.Proofs.Ytiaddnmloonhgaa.openL key nonce op other).snd != 3 then (Go.Proofs.Ytiaddnmloonhgaa.openL key nonce op other).snd != 121 else Bool.false then
 bif
 match Bool.false with
 | Bool.true => bif Go.Eng.nI (Go.Eng.rowLen 1 (Go.Proofs.Ytiaddnmloonhgaa.openL key nonce op other).fst) != 0 then Bool.true else bif (Go.Proofs.Ytiaddnmloonhgaa.openL key nonce op other).snd != 3 then (Go.Proofs.Ytiaddnmloonhgaa.openL key nonce op other).snd != 121 else Bool.false
 | Bool.false => !bif Go.Eng.nI (Go.Eng.rowLen 1 (Go.Proofs.Ytiaddnmloonhgaa.openL key nonce op other).fst) != 0 then Bool.true else bif (Go.Proofs.Ytiaddnmloonhgaa.openL key nonce op other).snd != 3 then (Go.Proofs.Ytiaddnmloonhgaa.openL key nonce op other).snd != 121 else Bool.false then
 bif
 match Bool.false with
 | Bool.true => bif Go.Eng.nI (Go.Eng.rowLen 1 (Go.Proofs.Ytiaddnmloonhgaa.openL key nonce op other).fst) != 0 then Bool.true else bif (Go.Proofs.Ytiaddnmloonhgaa.openL key nonce op other).snd != 3 then (Go.Proofs.Ytiaddnmloonhgaa.openL key nonce op other).snd != 121 else Bool.false
 | Bool.false => !bif Go.Eng.nI (Go.Eng.rowLen 1 (Go.Proofs.Ytiaddnmloonhgaa.openL key nonce op other).fst) != 0 then Bool.true else bif (Go.Proofs.Ytiaddnmloonhgaa.openL key nonce op other).snd != 3 then (Go.Proofs.Ytiaddnmloonhgaa.openL key nonce op other).snd != 121 else Bool.false then
 bif
 match Bool.false with
 | Bool.true => bif Go.Eng.nI (Go.Eng.rowLen 1 (Go.Proofs.Ytiaddnmloonhgaa.openL key nonce op other).fst) != 0 then Bool.true else bif (Go.Proofs.Ytiaddnmloonhgaa.openL key nonce op other).snd != 3 then (Go.Proofs.Ytiaddnmloonhgaa.openL key nonce op other).snd != 121 else Bool.false
 | Bool.false => !bif Go.Eng.nI (Go.Eng.rowLen 1 (Go.Proofs.Ytiaddnmloonhgaa.openL key nonce op other).fst) != 0 then Bool.true else bif (Go.Proofs.Ytiaddnmloonhgaa.openL key nonce op other).snd != 3 then (Go.Proofs.Ytiaddnmloonhgaa.openL key nonce op other).snd != 121 else Bool.false then
 bif
 match Bool.false with
 | Bool.true => bif Go.Eng.nI (Go.Eng.rowLen 1 (Go.Proofs.Ytiaddnmloonhgaa.openL key nonce op other).fst) != 0 then Bool.true else bif (Go.Proofs.Ytiaddnmloonhgaa.openL key nonce op other).snd != 3 then (Go.Proofs.Ytiaddnmloonhgaa.openL key nonce op other).snd != 121 else Bool.false
 | Bool.false => !bif Go.Eng.nI (Go.Eng.rowLen 1 (Go.Proofs.Ytiaddnmloonhgaa.openL key nonce op other).fst) != 0 then Bool.true else bif (Go.Proofs.Ytiaddnmloonhgaa.openL key nonce op other).snd != 3 then (Go.Proofs.Ytiaddnmloonhgaa.openL key nonce op other).snd != 121 else Bool.false then
 bif
 match Bool.false with
 | Bool.true => bif Go.Eng.nI (Go.Eng.rowLen 1 (Go.Proofs.Ytiaddnmloonhgaa.openL key nonce op other).fst) != 0 then Bool.true else bif (Go.Proofs.Ytiaddnmloonhgaa.openL key nonce op other).snd != 3 then (Go.Proofs.Ytiaddnmloonhgaa.openL key nonce op other).snd != 121 else Bool.false
 | Bool.false => !bif Go.Eng.nI (Go.Eng.rowLen 1 (Go.Proofs.Ytiaddnmloonhgaa.openL key nonce op other).fst) != 0 then Bool.true else bif (Go.Proofs.Ytiaddnmloonhgaa.openL key nonce op other).snd != 3 then (Go.Proofs.Ytiaddnmloonhgaa.openL key nonce op other).snd != 121 else Bool.false then
 let v35 : Bool := bif (Go.Proofs.Ytiaddnmloonhgaa.openL key nonce op other).snd != 3 then (Go.Proofs.Ytiaddnmloonhgaa.openL key nonce op other).snd != 121 else Bool.false;
 let v36 : Bool := bif Go.Eng.nI (Go.Eng.rowLen 1 (Go.Proofs.Ytiaddnmloonhgaa.openL key nonce op other).fst) != 0 then Bool.true else v35;
 let v37 : Bool := bif v36 then Bool.true else !((Go.Proofs.Ytiaddnmloonhgaa.openL key nonce op other).snd == 3) == Decidable.decide (Go.Eng.nI (Go.Eng.rowLen 1 other) < 16);
 bif v37 then k [Go.Eng.DV.v (Go.Eng.SV.one (Go.Eng.At.bool Bool.false))]
 else
 bif Decidable.decide (0 ≤ 1) && (Decidable.decide (1 < 4294967296) && text.length.ble Go.Proofs.Ytiaddnmloonhgaa.lim) then
 bif Go.Proofs.Ytiaddnmloonhgaa.tooFar (Int.toNat 1) text.length then k [Go.Eng.DV.v (Go.Eng.SV.one (Go.Eng.At.bool Bool.false))]
 else
 bif Decidable.decide (0 ≤ 1) && (Decidable.decide (1 < 4294967296) && (Go.Proofs.Ytiaddnmloonhgaa.streamL key (Int.toNat 1) nonce text).length.ble Go.Proofs.Ytiaddnmloonhgaa.lim) then
 bif Go.Proofs.Ytiaddnmloonhgaa.tooFar (Int.toNat 1) (Go.Proofs.Ytiaddnmloonhgaa.streamL key (Int.toNat 1) nonce text).length then k [Go.Eng.DV.v (Go.Eng.SV.one (Go.Eng.At.bool Bool.false))]
 else
 bif (Go.Proofs.Ytiaddnmloonhgaa.streamL key (Int.toNat 1) nonce (Go.Proofs.Ytiaddnmloonhgaa.streamL key (Int.toNat 1) nonce text)).length.ble Go.Proofs.Ytiaddnmloonhgaa.lim then
 bif
 match Bool.true with
 | Bool.true => bif bif 0 == 0 then 0 == 0 else Bool.false then Decidable.decide (Go.Proofs.Ytiaddnmloonhgaa.streamL key (Int.toNat 1) nonce (Go.Proofs.Ytiaddnmloonhgaa.streamL key (Int.toNat 1) nonce text) = text) else Bool.false
 | Bool.false => !bif bif 0 == 0 then 0 == 0 else Bool.false then Decidable.decide (Go.Proofs.Ytiaddnmloonhgaa.streamL key (Int.toNat 1) nonce (Go.Proofs.Ytiaddnmloonhgaa.streamL key (Int.toNat 1) nonce text) = text) else Bool.false then
 bif
 match Bool.true with
 | Bool.true => bif bif 0 == 0 then 0 == 0 else Bool.false then Decidable.decide (Go.Proofs.Ytiaddnmloonhgaa.streamL key (Int.toNat 1) nonce (Go.Proofs.Ytiaddnmloonhgaa.streamL key (Int.toNat 1) nonce text) = text) else Bool.false
 | Bool.false => !bif bif 0 == 0 then 0 == 0 else Bool.false then Decidable.decide (Go.Proofs.Ytiaddnmloonhgaa.streamL key (Int.toNat 1) nonce (Go.Proofs.Ytiaddnmloonhgaa.streamL key (Int.toNat 1) nonce text) = text) else Bool.false then
 bif
 match Bool.true with
 | Bool.true => bif bif 0 == 0 then 0 == 0 else Bool.false then Decidable.decide (Go.Proofs.Ytiaddnmloonhgaa.streamL key (Int.toNat 1) nonce (Go.Proofs.Ytiaddnmloonhgaa.streamL key (Int.toNat 1) nonce text) = text) else Bool.false
 | Bool.false => !bif bif 0 == 0 then 0 == 0 else Bool.false then Decidable.decide (Go.Proofs.Ytiaddnmloonhgaa.streamL key (Int.toNat 1) nonce (Go.Proofs.Ytiaddnmloonhgaa.streamL key (Int.toNat 1) nonce text) = text) else Bool.false then
 bif
 match Bool.true with
 | Bool.true => bif bif 0 == 0 then 0 == 0 else Bool.false then Decidable.decide (Go.Proofs.Ytiaddnmloonhgaa.streamL key (Int.toNat 1) nonce (Go.Proofs.Ytiaddnmloonhgaa.streamL key (Int.toNat 1) nonce text) = text) else Bool.false
 | Bool.false => !bif bif 0 == 0 then 0 == 0 else Bool.false then Decidable.decide (Go.Proofs.Ytiaddnmloonhgaa.streamL key (Int.toNat 1) nonce (Go.Proofs.Ytiaddnmloonhgaa.streamL key (Int.toNat 1) nonce text) = text) else Bool.false then
 bif
 match Bool.true with
 | Bool.true => bif bif 0 == 0 then 0 == 0 else Bool.false then Decidable.decide (Go.Proofs.Ytiaddnmloonhgaa.streamL key (Int.toNat 1) nonce (Go.Proofs.Ytiaddnmloonhgaa.streamL key (Int.toNat 1) nonce text) = text) else Bool.false
 | Bool.false => !bif bif 0 == 0 then 0 == 0 else Bool.false then Decidable.decide (Go.Proofs.Ytiaddnmloonhgaa.streamL key (Int.toNat 1) nonce (Go.Proofs.Ytiaddnmloonhgaa.streamL key (Int.toNat 1) nonce text) = text) else Bool.false then
 bif Go.Eng.hiOk (Option.some (Go.Eng.nI (Go.Eng.rowLen 1 text))) (Go.Eng.rowLen 1 (Go.Proofs.Ytiaddnmloonhgaa.sealL key nonce op text)) then
 bif
 match Bool.true with
 | Bool.true => bif bif 0 == 0 then 0 == 0 else Bool.false then Decidable.decide (Go.Proofs.Ytiaddnmloonhgaa.streamL key (Int.toNat 1) nonce (Go.Proofs.Ytiaddnmloonhgaa.streamL key (Int.toNat 1) nonce text) = text) else Bool.false
 | Bool.false => !bif bif 0 == 0 then 0 == 0 else Bool.false then Decidable.decide (Go.Proofs.Ytiaddnmloonhgaa.streamL key (Int.toNat 1) nonce (Go.Proofs.Ytiaddnmloonhgaa.streamL key (Int.toNat 1) nonce text) = text) else Bool.false then
 bif (Go.Proofs.Ytiaddnmloonhgaa.streamL key (Int.toNat 1) nonce text).length.ble Go.Proofs.Ytiaddnmloonhgaa.lim then
 let v38 : Bool := bif 0 == 0 then 0 == 0 else Bool.false;
 let v39 : Bool := bif v38 then Decidable.decide (Go.Proofs.Ytiaddnmloonhgaa.streamL key (Int.toNat 1) nonce (Go.Proofs.Ytiaddnmloonhgaa.streamL key (Int.toNat 1) nonce text) = text) else Bool.false;
 let v40 : List Int := Go.Eng.sub (Go.Proofs.Ytiaddnmloonhgaa.sealL key nonce op text) (Go.Eng.plusO Go.Eng.Off.z 1 Option.none) (Go.Eng.mulE (Go.Eng.subN (Go.Eng.hiNat (Option.some (Go.Eng.nI (Go.Eng.rowLen 1 text))) (Go.Eng.rowLen 1 (Go.Proofs.Ytiaddnmloonhgaa.sealL key nonce op text))) Option.none) 1);
 let v41 : Bool := bif v39 then Decidable.decide (Go.Proofs.Ytiaddnmloonhgaa.streamL key (Int.toNat 1) nonce text = v40) else Bool.false;
 k [Go.Eng.DV.v (Go.Eng.SV.one (Go.Eng.At.bool v41))]
 else Option.none
 else
 let v42 : Bool := bif 0 == 0 then 0 == 0 else Bool.false;
 let v43 : Bool := bif v42 then Decidable.decide (Go.Proofs.Ytiaddnmloonhgaa.streamL key (Int.toNat 1) nonce (Go.Proofs.Ytiaddnmloonhgaa.streamL key (Int.toNat 1) nonce text) = text) else Bool.false;
 bif v43 then Option.none else k [Go.Eng.DV.v (Go.Eng.SV.one (Go.Eng.At.bool Bool.false))]
 else Option.none
 else
 bif
 match Bool.true with
 | Bool.true => bif bif 0 == 0 then 0 == 0 else Bool.false then Decidable.decide (Go.Proofs.Ytiaddnmloonhgaa.streamL key (Int.toNat 1) nonce (Go.Proofs.Ytiaddnmloonhgaa.streamL key (Int.toNat 1) nonce text) = text) else Bool.false
 | Bool.false => !bif bif 0 == 0 then 0 == 0 else Bool.false then Decidable.decide (Go.Proofs.Ytiaddnmloonhgaa.streamL key (Int.toNat 1) nonce (Go.Proofs.Ytiaddnmloonhgaa.streamL key (Int.toNat 1) nonce text) = text) else Bool.false then
 Option.none
 else
 let v44 : Bool := bif 0 == 0 then 0 == 0 else Bool.false;
 let v45 : Bool := bif v44 then Decidable.decide (Go.Proofs.Ytiaddnmloonhgaa.streamL key (Int.toNat 1) nonce (Go.Proofs.Ytiaddnmloonhgaa.streamL key (Int.toNat 1) nonce text) = text) else Bool.false;
 bif v45 then Option.none else k [Go.Eng.DV.v (Go.Eng.SV.one (Go.Eng.At.bool Bool.false))]
 else
 bif
 match Bool.true with
 | Bool.true => bif bif 0 == 0 then 0 == 0 else Bool.false then Decidable.decide (Go.Proofs.Ytiaddnmloonhgaa.streamL key (Int.toNat 1) nonce (Go.Proofs.Ytiaddnmloonhgaa.streamL key (Int.toNat 1) nonce text) = text) else Bool.false
 | Bool.false => !bif bif 0 == 0 then 0 == 0 else Bool.false then Decidable.decide (Go.Proofs.Ytiaddnmloonhgaa.streamL key (Int.toNat 1) nonce (Go.Proofs.Ytiaddnmloonhgaa.streamL key (Int.toNat 1) nonce text) = text) else Bool.false then
 Option.none
 else
 bif
 match Bool.true with
 | Bool.true => bif bif 0 == 0 then 0 == 0 else Bool.false then Decidable.decide (Go.Proofs.Ytiaddnmloonhgaa.streamL key (Int.toNat 1) nonce (Go.Proofs.Ytiaddnmloonhgaa.streamL key (Int.toNat 1) nonce text) = text) else Bool.false
 | Bool.false => !bif bif 0 == 0 then 0 == 0 else Bool.false then Decidable.decide (Go.Proofs.Ytiaddnmloonhgaa.streamL key (Int.toNat 1) nonce (Go.Proofs.Ytiaddnmloonhgaa.streamL key (Int.toNat 1) nonce text) = text) else Bool.false then
 Option.none
 else
 let v46 : Bool := bif 0 == 0 then 0 == 0 else Bool.false;
 let v47 : Bool := bif v46 then Decidable.decide (Go.Proofs.Ytiaddnmloonhgaa.streamL key (Int.toNat 1) nonce (Go.Proofs.Ytiaddnmloonhgaa.streamL key (Int.toNat 1) nonce text) = text) else Bool.false;
 bif v47 then Option.none else k [Go.Eng.DV.v (Go.Eng.SV.one (Go.Eng.At.bool Bool.false))]
 else
 bif
 match Bool.true with
 | Bool.true => bif bif 0 == 0 then 0 == 0 else Bool.false then Decidable.decide (Go.Proofs.Ytiaddnmloonhgaa.streamL key (Int.toNat 1) nonce (Go.Proofs.Ytiaddnmloonhgaa.streamL key (Int.toNat 1) nonce text) = text) else Bool.false
 | Bool.false => !bif bif 0 == 0 then 0 == 0 else Bool.false then Decidable.decide (Go.Proofs.Ytiaddnmloonhgaa.streamL key (Int.toNat 1) nonce (Go.Proofs.Ytiaddnmloonhgaa.streamL key (Int.toNat 1) nonce text) = text) else Bool.false then
 Option.none
 else
 bif
 match Bool.true with
 | Bool.true => bif bif 0 == 0 then 0 == 0 else Bool.false then Decidable.decide (Go.Proofs.Ytiaddnmloonhgaa.streamL key (Int.toNat 1) nonce (Go.Proofs.Ytiaddnmloonhgaa.streamL key (Int.toNat 1) nonce text) = text) else Bool.false
 | Bool.false => !bif bif 0 == 0 then 0 == 0 else Bool.false then Decidable.decide (Go.Proofs.Ytiaddnmloonhgaa.streamL key (Int.toNat 1) nonce (Go.Proofs.Ytiaddnmloonhgaa.streamL key (Int.toNat 1) nonce text) = text) else Bool.false then
 Option.none
 else
 bif
 match Bool.true with
 | Bool.true => bif bif 0 == 0 then 0 == 0 else Bool.false then Decidable.decide (Go.Proofs.Ytiaddnmloonhgaa.streamL key (Int.toNat 1) nonce (Go.Proofs.Ytiaddnmloonhgaa.streamL key (Int.toNat 1) nonce text) = text) else Bool.false
 | Bool.false => !bif bif 0 == 0 then 0 == 0 else Bool.false then Decidable.decide (Go.Proofs.Ytiaddnmloonhgaa.streamL key (Int.toNat 1) nonce (Go.Proofs.Ytiaddnmloonhgaa.streamL key (Int.toNat 1) nonce text) = text) else Bool.false then
 Option.none
 else
 let v48 : Bool := bif 0 == 0 then 0 == 0 else Bool.false;
 let v49 : Bool := bif v48 then Decidable.decide (Go.Proofs.Ytiaddnmloonhgaa.streamL key (Int.toNat 1) nonce (Go.Proofs.Ytiaddnmloonhgaa.streamL key (Int.toNat 1) nonce text) = text) else Bool.false;
 bif v49 then Option.none else k [Go.Eng.DV.v (Go.Eng.SV.one (Go.Eng.At.bool Bool.false))]
 else
 bif
 match Bool.true with
 | Bool.true => bif bif 0 == 0 then 0 == 0 else Bool.false then Decidable.decide (Go.Proofs.Ytiaddnmloonhgaa.streamL key (Int.toNat 1) nonce (Go.Proofs.Ytiaddnmloonhgaa.streamL key (Int.toNat 1) nonce text) = text) else Bool.false
 | Bool.false => !bif bif 0 == 0 then 0 == 0 else Bool.false then Decidable.decide (Go.Proofs.Ytiaddnmloonhgaa.streamL key (Int.toNat 1) nonce (Go.Proofs.Ytiaddnmloonhgaa.streamL key (Int.toNat 1) nonce text) = text) else Bool.false then
 bif
 match Bool.true with
 | Bool.true => bif bif 0 == 0 then 0 == 0 else Bool.false then Decidable.decide (Go.Proofs.Ytiaddnmloonhgaa.streamL key (Int.toNat 1) nonce (Go.Proofs.Ytiaddnmloonhgaa.streamL key (Int.toNat 1) nonce text) = text) else Bool.false
 | Bool.false => !bif bif 0 == 0 then 0 == 0 else Bool.false then Decidable.decide (Go.Proofs.Ytiaddnmloonhgaa.streamL key (Int.toNat 1) nonce (Go.Proofs.Ytiaddnmloonhgaa.streamL key (Int.toNat 1) nonce text) = text) else Bool.false then
 bif
 match Bool.true with
 | Bool.true => bif bif 0 == 0 then 0 == 0 else Bool.false then Decidable.decide (Go.Proofs.Ytiaddnmloonhgaa.streamL key (Int.toNat 1) nonce (Go.Proofs.Ytiaddnmloonhgaa.streamL key (Int.toNat 1) nonce text) = text) else Bool.false
 | Bool.false => !bif bif 0 == 0 then 0 == 0 else Bool.false then Decidable.decide (Go.Proofs.Ytiaddnmloonhgaa.streamL key (Int.toNat 1) nonce (Go.Proofs.Ytiaddnmloonhgaa.streamL key (Int.toNat 1) nonce text) = text) else Bool.false then
 Option.none
 else
 bif
 match Bool.true with
 | Bool.true => bif bif 0 == 0 then 0 == 0 else Bool.false then Decidable.decide (Go.Proofs.Ytiaddnmloonhgaa.streamL key (Int.toNat 1) nonce (Go.Proofs.Ytiaddnmloonhgaa.streamL key (Int.toNat 1) nonce text) = text) else Bool.false
 | Bool.false => !bif bif 0 == 0 then 0 == 0 else Bool.false then Decidable.decide (Go.Proofs.Ytiaddnmloonhgaa.streamL key (Int.toNat 1) nonce (Go.Proofs.Ytiaddnmloonhgaa.streamL key (Int.toNat 1) nonce text) = text) else Bool.false then
 Option.none
 else
 let v50 : Bool := bif 0 == 0 then 0 == 0 else Bool.false;
 let v51 : Bool := bif v50 then Decidable.decide (Go.Proofs.Ytiaddnmloonhgaa.streamL key (Int.toNat 1) nonce (Go.Proofs.Ytiaddnmloonhgaa.streamL key (Int.toNat 1) nonce text) = text) else Bool.false;
 bif v51 then Option.none else k [Go.Eng.DV.v (Go.Eng.SV.one (Go.Eng.At.bool Bool.false))]
 else
 bif
 match Bool.true with
 | Bool.true => bif bif 0 == 0 then 0 == 0 else Bool.false then Decidable.decide (Go.Proofs.Ytiaddnmloonhgaa.streamL key (Int.toNat 1) nonce (Go.Proofs.Ytiaddnmloonhgaa.streamL key (Int.toNat 1) nonce text) = text) else Bool.false
 | Bool.false => !bif bif 0 == 0 then 0 == 0 else Bool.false then Decidable.decide (Go.Proofs.Ytiaddnmloonhgaa.streamL key (Int.toNat 1) nonce (Go.Proofs.Ytiaddnmloonhgaa.streamL key (Int.toNat 1) nonce text) = text) else Bool.false then
 Option.none
 else
 bif
 match Bool.true with
 | Bool.true => bif bif 0 == 0 then 0 == 0 else Bool.false then Decidable.decide (Go.Proofs.Ytiaddnmloonhgaa.streamL key (Int.toNat 1) nonce (Go.Proofs.Ytiaddnmloonhgaa.streamL key (Int.toNat 1) nonce text) = text) else Bool.false
 | Bool.false => !bif bif 0 == 0 then 0 == 0 else Bool.false then Decidable.decide (Go.Proofs.Ytiaddnmloonhgaa.streamL key (Int.toNat 1) nonce (Go.Proofs.Ytiaddnmloonhgaa.streamL key (Int.toNat 1) nonce text) = text) else Bool.false then
 Option.none
 else
 let v52 : Bool := bif 0 == 0 then 0 == 0 else Bool.false;
 let v53 : Bool := bif v52 then Decidable.decide (Go.Proofs.Ytiaddnmloonhgaa.streamL key (Int.toNat 1) nonce (Go.Proofs.Ytiaddnmloonhgaa.streamL key (Int.toNat 1) nonce text) = text) else Bool.false;
 bif v53 then Option.none else k [Go.Eng.DV.v (Go.Eng.SV.one (Go.Eng.At.bool Bool.false))]
 else
 bif
 match Bool.true with
 | Bool.true => bif bif 0 == 0 then 0 == 0 else Bool.false then Decidable.decide (Go.Proofs.Ytiaddnmloonhgaa.streamL key (Int.toNat 1) nonce (Go.Proofs.Ytiaddnmloonhgaa.streamL key (Int.toNat 1) nonce text) = text) else Bool.false
 | Bool.false => !bif bif 0 == 0 then 0 == 0 else Bool.false then Decidable.decide (Go.Proofs.Ytiaddnmloonhgaa.streamL key (Int.toNat 1) nonce (Go.Proofs.Ytiaddnmloonhgaa.streamL key (Int.toNat 1) nonce text) = text) else Bool.false then
 Option.none
 else
 bif
 match Bool.true with
 | Bool.true => bif bif 0 == 0 then 0 == 0 else Bool.false then Decidable.decide (Go.Proofs.Ytiaddnmloonhgaa.streamL key (Int.toNat 1) nonce (Go.Proofs.Ytiaddnmloonhgaa.streamL key (Int.toNat 1) nonce text) = text) else Bool.false
 | Bool.false => !bif bif 0 == 0 then 0 == 0 else Bool.false then Decidable.decide (Go.Proofs.Ytiaddnmloonhgaa.streamL key (Int.toNat 1) nonce (Go.Proofs.Ytiaddnmloonhgaa.streamL key (Int.toNat 1) nonce text) = text) else Bool.false then
 Option.none
 else
 bif
 match Bool.true with
 | Bool.true => bif bif 0 == 0 then 0 == 0 else Bool.false then Decidable.decide (Go.Proofs.Ytiaddnmloonhgaa.streamL key (Int.toNat 1) nonce (Go.Proofs.Ytiaddnmloonhgaa.streamL key (Int.toNat 1) nonce text) = text) else Bool.false
 | Bool.false => !bif bif 0 == 0 then 0 == 0 else Bool.false then Decidable.decide (Go.Proofs.Ytiaddnmloonhgaa.streamL key (Int.toNat 1) nonce (Go.Proofs.Ytiaddnmloonhgaa.streamL key (Int.toNat 1) nonce text) = text) else Bool.false then
 Option.none
 else
 let v54 : Bool := bif 0 == 0 then 0 == 0 else Bool.false;
 let v55 : Bool := bif v54 then Decidable.decide (Go.Proofs.Ytiaddnmloonhgaa.streamL key (Int.toNat 1) nonce (Go.Proofs.Ytiaddnmloonhgaa.streamL key (Int.toNat 1) nonce text) = text) else Bool.false;
 bif v55 then Option.none else k [Go.Eng.DV.v (Go.Eng.SV.one (Go.Eng.At.bool Bool.false))]
 else
 bif
 match Bool.true with
 | Bool.true => bif bif 0 == 0 then 0 == 0 else Bool.false then Decidable.decide (Go.Proofs.Ytiaddnmloonhgaa.streamL key (Int.toNat 1) nonce (Go.Proofs.Ytiaddnmloonhgaa.streamL key (Int.toNat 1) nonce text) = text) else Bool.false
 | Bool.false => !bif bif 0 == 0 then 0 == 0 else Bool.false then Decidable.decide (Go.Proofs.Ytiaddnmloonhgaa.streamL key (Int.toNat 1) nonce (Go.Proofs.Ytiaddnmloonhgaa.streamL key (Int.toNat 1) nonce text) = text) else Bool.false then
 bif
 match Bool.true with
 | Bool.true => bif bif 0 == 0 then 0 == 0 else Bool.false then Decidable.decide (Go.Proofs.Ytiaddnmloonhgaa.streamL key (Int.toNat 1) nonce (Go.Proofs.Ytiaddnmloonhgaa.streamL key (Int.toNat 1) nonce text) = text) else Bool.false
 | Bool.false => !bif bif 0 == 0 then 0 == 0 else Bool.false then Decidable.decide (Go.Proofs.Ytiaddnmloonhgaa.streamL key (Int.toNat 1) nonce (Go.Proofs.Ytiaddnmloonhgaa.streamL key (Int.toNat 1) nonce text) = text) else Bool.false then
 bif
 match Bool.true with
 | Bool.true => bif bif 0 == 0 then 0 == 0 else Bool.false then Decidable.decide (Go.Proofs.Ytiaddnmloonhgaa.streamL key (Int.toNat 1) nonce (Go.Proofs.Ytiaddnmloonhgaa.streamL key (Int.toNat 1) nonce text) = text) else Bool.false
 | Bool.false => !bif bif 0 == 0 then 0 == 0 else Bool.false then Decidable.decide (Go.Proofs.Ytiaddnmloonhgaa.streamL key (Int.toNat 1) nonce (Go.Proofs.Ytiaddnmloonhgaa.streamL key (Int.toNat 1) nonce text) = text) else Bool.false then
 bif
 match Bool.true with
 | Bool.true => bif bif 0 == 0 then 0 == 0 else Bool.false then Decidable.decide (Go.Proofs.Ytiaddnmloonhgaa.streamL key (Int.toNat 1) nonce (Go.Proofs.Ytiaddnmloonhgaa.streamL key (Int.toNat 1) nonce text) = text) else Bool.false
 | Bool.false => !bif bif 0 == 0 then 0 == 0 else Bool.false then Decidable.decide (Go.Proofs.Ytiaddnmloonhgaa.streamL key (Int.toNat 1) nonce (Go.Proofs.Ytiaddnmloonhgaa.streamL key (Int.toNat 1) nonce text) = text) else Bool.false then
 bif Go.Eng.hiOk (Option.some (Go.Eng.nI (Go.Eng.rowLen 1 text))) (Go.Eng.rowLen 1 (Go.Proofs.Ytiaddnmloonhgaa.sealL key nonce op text)) then
 bif
 match Bool.true with
 | Bool.true => bif bif 0 == 0 then 0 == 0 else Bool.false then Decidable.decide (Go.Proofs.Ytiaddnmloonhgaa.streamL key (Int.toNat 1) nonce (Go.Proofs.Ytiaddnmloonhgaa.streamL key (Int.toNat 1) nonce text) = text) else Bool.false
 | Bool.false => !bif bif 0 == 0 then 0 == 0 else Bool.false then Decidable.decide (Go.Proofs.Ytiaddnmloonhgaa.streamL key (Int.toNat 1) nonce (Go.Proofs.Ytiaddnmloonhgaa.streamL key (Int.toNat 1) nonce text) = text) else Bool.false then
 Option.none
 else
 let v56 : Bool := bif 0 == 0 then 0 == 0 else Bool.false;
 let v57 : Bool := bif v56 then Decidable.decide (Go.Proofs.Ytiaddnmloonhgaa.streamL key (Int.toNat 1) nonce (Go.Proofs.Ytiaddnmloonhgaa.streamL key (Int.toNat 1) nonce text) = text) else Bool.false;
 bif v57 then Option.none else k [Go.Eng.DV.v (Go.Eng.SV.one (Go.Eng.At.bool Bool.false))]
 else Option.none
 else
 bif
 match Bool.true with
 | Bool.true => bif bif 0 == 0 then 0 == 0 else Bool.false then Decidable.decide (Go.Proofs.Ytiaddnmloonhgaa.streamL key (Int.toNat 1) nonce (Go.Proofs.Ytiaddnmloonhgaa.streamL key (Int.toNat 1) nonce text) = text) else Bool.false
 | Bool.false => !bif bif 0 == 0 then 0 == 0 else Bool.false then Decidable.decide (Go.Proofs.Ytiaddnmloonhgaa.streamL key (Int.toNat 1) nonce (Go.Proofs.Ytiaddnmloonhgaa.streamL key (Int.toNat 1) nonce text) = text) else Bool.false then
 Option.none
 else
 let v58 : Bool := bif 0 == 0 then 0 == 0 else Bool.false;
 let v59 : Bool := bif v58 then Decidable.decide (Go.Proofs.Ytiaddnmloonhgaa.streamL key (Int.toNat 1) nonce (Go.Proofs.Ytiaddnmloonhgaa.streamL key (Int.toNat 1) nonce text) = text) else Bool.false;
 bif v59 then Option.none else k [Go.Eng.DV.v (Go.Eng.SV.one (Go.Eng.At.bool Bool.false))]
 else
 bif
 match Bool.true with
 | Bool.true => bif bif 0 == 0 then 0 == 0 else Bool.false then Decidable.decide (Go.Proofs.Ytiaddnmloonhgaa.streamL key (Int.toNat 1) nonce (Go.Proofs.Ytiaddnmloonhgaa.streamL key (Int.toNat 1) nonce text) = text) else Bool.false
 | Bool.false => !bif bif 0 == 0 then 0 == 0 else Bool.false then Decidable.decide (Go.Proofs.Ytiaddnmloonhgaa.streamL key (Int.toNat 1) nonce (Go.Proofs.Ytiaddnmloonhgaa.streamL key (Int.toNat 1) nonce text) = text) else Bool.false then
 Option.none
 else
 bif
 match Bool.true with
 | Bool.true => bif bif 0 == 0 then 0 == 0 else Bool.false then Decidable.decide (Go.Proofs.Ytiaddnmloonhgaa.streamL key (Int.toNat 1) nonce (Go.Proofs.Ytiaddnmloonhgaa.streamL key (Int.toNat 1) nonce text) = text) else Bool.false
 | Bool.false => !bif bif 0 == 0 then 0 == 0 else Bool.false then Decidable.decide (Go.Proofs.Ytiaddnmloonhgaa.streamL key (Int.toNat 1) nonce (Go.Proofs.Ytiaddnmloonhgaa.streamL key (Int.toNat 1) nonce text) = text) else Bool.false then
 Option.none
 else
 let v60 : Bool := bif 0 == 0 then 0 == 0 else Bool.false;
 let v61 : Bool := bif v60 then Decidable.decide (Go.Proofs.Ytiaddnmloonhgaa.streamL key (Int.toNat 1) nonce (Go.Proofs.Ytiaddnmloonhgaa.streamL key (Int.toNat 1) nonce text) = text) else Bool.false;
 bif v61 then Option.none else k [Go.Eng.DV.v (Go.Eng.SV.one (Go.Eng.At.bool Bool.false))]
 else
 bif
 match Bool.true with
 | Bool.true => bif bif 0 == 0 then 0 == 0 else Bool.false then Decidable.decide (Go.Proofs.Ytiaddnmloonhgaa.streamL key (Int.toNat 1) nonce (Go.Proofs.Ytiaddnmloonhgaa.streamL key (Int.toNat 1) nonce text) = text) else Bool.false
 | Bool.false => !bif bif 0 == 0 then 0 == 0 else Bool.false then Decidable.decide (Go.Proofs.Ytiaddnmloonhgaa.streamL key (Int.toNat 1) nonce (Go.Proofs.Ytiaddnmloonhgaa.streamL key (Int.toNat 1) nonce text) = text) else Bool.false then
 Option.none
 else
 bif
 match Bool.true with
 | Bool.true => bif bif 0 == 0 then 0 == 0 else Bool.false then Decidable.decide (Go.Proofs.Ytiaddnmloonhgaa.streamL key (Int.toNat 1) nonce (Go.Proofs.Ytiaddnmloonhgaa.streamL key (Int.toNat 1) nonce text) = text) else Bool.false
 | Bool.false => !bif bif 0 == 0 then 0 == 0 else Bool.false then Decidable.decide (Go.Proofs.Ytiaddnmloonhgaa.streamL key (Int.toNat 1) nonce (Go.Proofs.Ytiaddnmloonhgaa.streamL key (Int.toNat 1) nonce text) = text) else Bool.false then
 Option.none
 else
 bif
 match Bool.true with
 | Bool.true => bif bif 0 == 0 then 0 == 0 else Bool.false then Decidable.decide (Go.Proofs.Ytiaddnmloonhgaa.streamL key (Int.toNat 1) nonce (Go.Proofs.Ytiaddnmloonhgaa.streamL key (Int.toNat 1) nonce text) = text) else Bool.false
 | Bool.false => !bif bif 0 == 0 then 0 == 0 else Bool.false then Decidable.decide (Go.Proofs.Ytiaddnmloonhgaa.streamL key (Int.toNat 1) nonce (Go.Proofs.Ytiaddnmloonhgaa.streamL key (Int.toNat 1) nonce text) = text) else Bool.false then
 Option.none
 else
 let v62 : Bool := bif 0 == 0 then 0 == 0 else Bool.false;
 let v63 : Bool := bif v62 then Decidable.decide (Go.Proofs.Ytiaddnmloonhgaa.streamL key (Int.toNat 1) nonce (Go.Proofs.Ytiaddnmloonhgaa.streamL key (Int.toNat 1) nonce text) = text) else Bool.false;
 bif v63 then Option.none else k [Go.Eng.DV.v (Go.Eng.SV.one (Go.Eng.At.bool Bool.false))]
 else
 bif
 match Bool.true with
 | Bool.true => bif bif 0 == 0 then 0 == 0 else Bool.false then Decidable.decide (Go.Proofs.Ytiaddnmloonhgaa.streamL key (Int.toNat 1) nonce (Go.Proofs.Ytiaddnmloonhgaa.streamL key (Int.toNat 1) nonce text) = text) else Bool.false
 | Bool.false => !bif bif 0 == 0 then 0 == 0 else Bool.false then Decidable.decide (Go.Proofs.Ytiaddnmloonhgaa.streamL key (Int.toNat 1) nonce (Go.Proofs.Ytiaddnmloonhgaa.streamL key (Int.toNat 1) nonce text) = text) else Bool.false then
 bif
 match Bool.true with
 | Bool.true => bif bif 0 == 0 then 0 == 0 else Bool.false then Decidable.decide (Go.Proofs.Ytiaddnmloonhgaa.streamL key (Int.toNat 1) nonce (Go.Proofs.Ytiaddnmloonhgaa.streamL key (Int.toNat 1) nonce text) = text) else Bool.false
 | Bool.false => !bif bif 0 == 0 then 0 == 0 else Bool.false then Decidable.decide (Go.Proofs.Ytiaddnmloonhgaa.streamL key (Int.toNat 1) nonce (Go.Proofs.Ytiaddnmloonhgaa.streamL key (Int.toNat 1) nonce text) = text) else Bool.false then
 bif
 match Bool.true with
 | Bool.true => bif bif 0 == 0 then 0 == 0 else Bool.false then Decidable.decide (Go.Proofs.Ytiaddnmloonhgaa.streamL key (Int.toNat 1) nonce (Go.Proofs.Ytiaddnmloonhgaa.streamL key (Int.toNat 1) nonce text) = text) else Bool.false
 | Bool.false => !bif bif 0 == 0 then 0 == 0 else Bool.false then Decidable.decide (Go.Proofs.Ytiaddnmloonhgaa.streamL key (Int.toNat 1) nonce (Go.Proofs.Ytiaddnmloonhgaa.streamL key (Int.toNat 1) nonce text) = text) else Bool.false then
 Option.none
 else
 bif
 match Bool.true with
 | Bool.true => bif bif 0 == 0 then 0 == 0 else Bool.false then Decidable.decide (Go.Proofs.Ytiaddnmloonhgaa.streamL key (Int.toNat 1) nonce (Go.Proofs.Ytiaddnmloonhgaa.streamL key (Int.toNat 1) nonce text) = text) else Bool.false
 | Bool.false => !bif bif 0 == 0 then 0 == 0 else Bool.false then Decidable.decide (Go.Proofs.Ytiaddnmloonhgaa.streamL key (Int.toNat 1) nonce (Go.Proofs.Ytiaddnmloonhgaa.streamL key (Int.toNat 1) nonce text) = text) else Bool.false then
 Option.none
 else
 let v64 : Bool := bif 0 == 0 then 0 == 0 else Bool.false;
 let v65 : Bool := bif v64 then Decidable.decide (Go.Proofs.Ytiaddnmloonhgaa.streamL key (Int.toNat 1) nonce (Go.Proofs.Ytiaddnmloonhgaa.streamL key (Int.toNat 1) nonce text) = text) else Bool.false;
 bif v65 then Option.none else k [Go.Eng.DV.v (Go.Eng.SV.one (Go.Eng.At.bool Bool.false))]
 else
 bif
 match Bool.true with
 | Bool.true => bif bif 0 == 0 then 0 == 0 else Bool.false then Decidable.decide (Go.Proofs.Ytiaddnmloonhgaa.streamL key (Int.toNat 1) nonce (Go.Proofs.Ytiaddnmloonhgaa.streamL key (Int.toNat 1) nonce text) = text) else Bool.false
 | Bool.false => !bif bif 0 == 0 then 0 == 0 else Bool.false then Decidable.decide (Go.Proofs.Ytiaddnmloonhgaa.streamL key (Int.toNat 1) nonce (Go.Proofs.Ytiaddnmloonhgaa.streamL key (Int.toNat 1) nonce text) = text) else Bool.false then
 Option.none
 else
 bif
 match Bool.true with
 | Bool.true => bif bif 0 == 0 then 0 == 0 else Bool.false then Decidable.decide (Go.Proofs.Ytiaddnmloonhgaa.streamL key (Int.toNat 1) nonce (Go.Proofs.Ytiaddnmloonhgaa.streamL key (Int.toNat 1) nonce text) = text) else Bool.false
 | Bool.false => !bif bif 0 == 0 then 0 == 0 else Bool.false then Decidable.decide (Go.Proofs.Ytiaddnmloonhgaa.streamL key (Int.toNat 1) nonce (Go.Proofs.Ytiaddnmloonhgaa.streamL key (Int.toNat 1) nonce text) = text) else Bool.false then
 Option.none
 else
 let v66 : Bool := bif 0 == 0 then 0 == 0 else Bool.false;
 let v67 : Bool := bif v66 then Decidable.decide (Go.Proofs.Ytiaddnmloonhgaa.streamL key (Int.toNat 1) nonce (Go.Proofs.Ytiaddnmloonhgaa.streamL key (Int.toNat 1) nonce text) = text) else Bool.false;
 bif v67 then Option.none else k [Go.Eng.DV.v (Go.Eng.SV.one (Go.Eng.At.bool Bool.false))]
 else
 bif
 match Bool.true with
 | Bool.true => bif bif 0 == 0 then 0 == 0 else Bool.false then Decidable.decide (Go.Proofs.Ytiaddnmloonhgaa.streamL key (Int.toNat 1) nonce (Go.Proofs.Ytiaddnmloonhgaa.streamL key (Int.toNat 1) nonce text) = text) else Bool.false
 | Bool.false => !bif bif 0 == 0 then 0 == 0 else Bool.false then Decidable.decide (Go.Proofs.Ytiaddnmloonhgaa.streamL key (Int.toNat 1) nonce (Go.Proofs.Ytiaddnmloonhgaa.streamL key (Int.toNat 1) nonce text) = text) else Bool.false then
 Option.none
 else
 bif
 match Bool.true with
 | Bool.true => bif bif 0 == 0 then 0 == 0 else Bool.false then Decidable.decide (Go.Proofs.Ytiaddnmloonhgaa.streamL key (Int.toNat 1) nonce (Go.Proofs.Ytiaddnmloonhgaa.streamL key (Int.toNat 1) nonce text) = text) else Bool.false
 | Bool.false => !bif bif 0 == 0 then 0 == 0 else Bool.false then Decidable.decide (Go.Proofs.Ytiaddnmloonhgaa.streamL key (Int.toNat 1) nonce (Go.Proofs.Ytiaddnmloonhgaa.streamL key (Int.toNat 1) nonce text) = text) else Bool.false then
 Option.none
 else
 bif
 match Bool.true with
 | Bool.true => bif bif 0 == 0 then 0 == 0 else Bool.false then Decidable.decide (Go.Proofs.Ytiaddnmloonhgaa.streamL key (Int.toNat 1) nonce (Go.Proofs.Ytiaddnmloonhgaa.streamL key (Int.toNat 1) nonce text) = text) else Bool.false
 | Bool.false => !bif bif 0 == 0 then 0 == 0 else Bool.false then Decidable.decide (Go.Proofs.Ytiaddnmloonhgaa.streamL key (Int.toNat 1) nonce (Go.Proofs.Ytiaddnmloonhgaa.streamL key (Int.toNat 1) nonce text) = text) else Bool.false then
 Option.none
 else
 let v68 : Bool := bif 0 == 0 then 0 == 0 else Bool.false;
 let v69 : Bool := bif v68 then Decidable.decide (Go.Proofs.Ytiaddnmloonhgaa.streamL key (Int.toNat 1) nonce (Go.Proofs.Ytiaddnmloonhgaa.streamL key (Int.toNat 1) nonce text) = text) else Bool.false;
 bif v69 then Option.none else k [Go.Eng.DV.v (Go.Eng.SV.one (Go.Eng.At.bool Bool.false))]
 else Option.none
 else Option.none
 else Option.none
 else
 let v70 : Bool := bif (Go.Proofs.Ytiaddnmloonhgaa.openL key nonce op other).snd != 3 then (Go.Proofs.Ytiaddnmloonhgaa.openL key nonce op other).snd != 121 else Bool.false;
 let v71 : Bool := bif Go.Eng.nI (Go.Eng.rowLen 1 (Go.Proofs.Ytiaddnmloonhgaa.openL key nonce op other).fst) != 0 then Bool.true else v70;
 bif v71 then k [Go.Eng.DV.v (Go.Eng.SV.one (Go.Eng.At.bool Bool.false))] else Option.none
 else
 bif
 match Bool.false with
 | Bool.true => bif Go.Eng.nI (Go.Eng.rowLen 1 (Go.Proofs.Ytiaddnmloonhgaa.openL key nonce op other).fst) != 0 then Bool.true else bif (Go.Proofs.Ytiaddnmloonhgaa.openL key nonce op other).snd != 3 then (Go.Proofs.Ytiaddnmloonhgaa.openL key nonce op other).snd != 121 else Bool.false
 | Bool.false => !bif Go.Eng.nI (Go.Eng.rowLen 1 (Go.Proofs.Ytiaddnmloonhgaa.openL key nonce op other).fst) != 0 then Bool.true else bif (Go.Proofs.Ytiaddnmloonhgaa.openL key nonce op other).snd != 3 then (Go.Proofs.Ytiaddnmloonhgaa.openL key nonce op other).snd != 121 else Bool.false then
 Option.none
 else
 let v72 : Bool := bif (Go.Proofs.Ytiaddnmloonhgaa.openL key nonce op other).snd != 3 then (Go.Proofs.Ytiaddnmloonhgaa.openL key nonce op other).snd != 121 else Bool.false;
 let v73 : Bool := bif Go.Eng.nI (Go.Eng.rowLen 1 (Go.Proofs.Ytiaddnmloonhgaa.openL key nonce op other).fst) != 0 then Bool.true else v72;
 bif v73 then k [Go.Eng.DV.v (Go.Eng.SV.one (Go.Eng.At.bool Bool.false))] else Option.none
 else
 bif
 match Bool.false with
 | Bool.true => bif Go.Eng.nI (Go.Eng.rowLen 1 (Go.Proofs.Ytiaddnmloonhgaa.openL key nonce op other).fst) != 0 then Bool.true else bif (Go.Proofs.Ytiaddnmloonhgaa.openL key nonce op other).snd != 3 then (Go.Proofs.Ytiaddnmloonhgaa.openL key nonce op other).snd != 121 else Bool.false
 | Bool.false => !bif Go.Eng.nI (Go.Eng.rowLen 1 (Go.Proofs.Ytiaddnmloonhgaa.openL key nonce op other).fst) != 0 then Bool.true else bif (Go.Proofs.Ytiaddnmloonhgaa.openL key nonce op other).snd != 3 then (Go.Proofs.Ytiaddnmloonhgaa.openL key nonce op other).snd != 121 else Bool.false then
 Option.none
 else
 bif
 match Bool.false with
 | Bool.true => bif Go.Eng.nI (Go.Eng.rowLen 1 (Go.Proofs.Ytiaddnmloonhgaa.openL key nonce op other).fst) != 0 then Bool.true else bif (Go.Proofs.Ytiaddnmloonhgaa.openL key nonce op other).snd != 3 then (Go.Proofs.Ytiaddnmloonhgaa.openL key nonce op other).snd != 121 else Bool.false
 | Bool.false => !bif Go.Eng.nI (Go.Eng.rowLen 1 (Go.Proofs.Ytiaddnmloonhgaa.openL key nonce op other).fst) != 0 then Bool.true else bif (Go.Proofs.Ytiaddnmloonhgaa.openL key nonce op other).snd != 3 then (Go.Proofs.Ytiaddnmloonhgaa.openL key nonce op other).snd != 121 else Bool.false then
 Option.none
 else
 let v74 : Bool := bif (Go.Proofs.Ytiaddnmloonhgaa.openL key nonce op other).snd != 3 then (Go.Proofs.Ytiaddnmloonhgaa.openL key nonce op other).snd != 121 else Bool.false;
 let v75 : Bool := bif Go.Eng.nI (Go.Eng.rowLen 1 (Go.Proofs.Ytiaddnmloonhgaa.openL key nonce op other).fst) != 0 then Bool.true else v74;
 bif v75 then k [Go.Eng.DV.v (Go.Eng.SV.one (Go.Eng.At.bool Bool.false))] else Option.none
 else
 bif
 match Bool.false with
 | Bool.true => bif Go.Eng.nI (Go.Eng.rowLen 1 (Go.Proofs.Ytiaddnmloonhgaa.openL key nonce op other).fst) != 0 then Bool.true else bif (Go.Proofs.Ytiaddnmloonhgaa.openL key nonce op other).snd != 3 then (Go.Proofs.Ytiaddnmloonhgaa.openL key nonce op other).snd != 121 else Bool.false
 | Bool.false => !bif Go.Eng.nI (Go.Eng.rowLen 1 (Go.Proofs.Ytiaddnmloonhgaa.openL key nonce op other).fst) != 0 then Bool.true else bif (Go.Proofs.Ytiaddnmloonhgaa.openL key nonce op other).snd != 3 then (Go.Proofs.Ytiaddnmloonhgaa.openL key nonce op other).snd != 121 else Bool.false then
 Option.none
 else
 bif
 match Bool.false with
 | Bool.true => bif Go.Eng.nI (Go.Eng.rowLen 1 (Go.Proofs.Ytiaddnmloonhgaa.openL key nonce op other).fst) != 0 then Bool.true else bif (Go.Proofs.Ytiaddnmloonhgaa.openL key nonce op other).snd != 3 then (Go.Proofs.Ytiaddnmloonhgaa.openL key nonce op other).snd != 121 else Bool.false
 | Bool.false => !bif Go.Eng.nI (Go.Eng.rowLen 1 (Go.Proofs.Ytiaddnmloonhgaa.openL key nonce op other).fst) != 0 then Bool.true else bif (Go.Proofs.Ytiaddnmloonhgaa.openL key nonce op other).snd != 3 then (Go.Proofs.Ytiaddnmloonhgaa.openL key nonce op other).snd != 121 else Bool.false then
 Option.none
 else
 bif
 match Bool.false with
 | Bool.true => bif Go.Eng.nI (Go.Eng.rowLen 1 (Go.Proofs.Ytiaddnmloonhgaa.openL key nonce op other).fst) != 0 then Bool.true else bif (Go.Proofs.Ytiaddnmloonhgaa.openL key nonce op other).snd != 3 then (Go.Proofs.Ytiaddnmloonhgaa.openL key nonce op other).snd != 121 else Bool.false
 | Bool.false => !bif Go.Eng.nI (Go.Eng.rowLen 1 (Go.Proofs.Ytiaddnmloonhgaa.openL key nonce op other).fst) != 0 then Bool.true else bif (Go.Proofs.Ytiaddnmloonhgaa.openL key nonce op other).snd != 3 then (Go.Proofs.Ytiaddnmloonhgaa.openL key nonce op other).snd != 121 else Bool.false then
 Option.none
 else
 let v76 : Bool := bif (Go.Proofs.Ytiaddnmloonhgaa.openL key nonce op other).snd != 3 then (Go.Proofs.Ytiaddnmloonhgaa.openL key nonce op other).snd != 121 else Bool.false;
 let v77 : Bool := bif Go.Eng.nI (Go.Eng.rowLen 1 (Go.Proofs.Ytiaddnmloonhgaa.openL key nonce op other).fst) != 0 then Bool.true else v76;
 bif v77 then k [Go.Eng.DV.v (Go.Eng.SV.one (Go.Eng.At.bool Bool.false))] else Option.none
 else
 bif
 match Bool.false with
 | Bool.true => bif Go.Eng.nI (Go.Eng.rowLen 1 (Go.Proofs.Ytiaddnmloonhgaa.openL key nonce op other).fst) != 0 then Bool.true else bif (Go.Proofs.Ytiaddnmloonhgaa.openL key nonce op other).snd != 3 then (Go.Proofs.Ytiaddnmloonhgaa.openL key nonce op other).snd != 121 else Bool.false
 | Bool.false => !bif Go.Eng.nI (Go.Eng.rowLen 1 (Go.Proofs.Ytiaddnmloonhgaa.openL key nonce op other).fst) != 0 then Bool.true else bif (Go.Proofs.Ytiaddnmloonhgaa.openL key nonce op other).snd != 3 then (Go.Proofs.Ytiaddnmloonhgaa.openL key nonce op other).snd != 121 else Bool.false then
 bif
 match Bool.false with
 | Bool.true => bif Go.Eng.nI (Go.Eng.rowLen 1 (Go.Proofs.Ytiaddnmloonhgaa.openL key nonce op other).fst) != 0 then Bool.true else bif (Go.Proofs.Ytiaddnmloonhgaa.openL key nonce op other).snd != 3 then (Go.Proofs.Ytiaddnmloonhgaa.openL key nonce op other).snd != 121 else Bool.false
 | Bool.false => !bif Go.Eng.nI (Go.Eng.rowLen 1 (Go.Proofs.Ytiaddnmloonhgaa.openL key nonce op other).fst) != 0 then Bool.true else bif (Go.Proofs.Ytiaddnmloonhgaa.openL key nonce op other).snd != 3 then (Go.Proofs.Ytiaddnmloonhgaa.openL key nonce op other).snd != 121 else Bool.false then
 bif
 match Bool.false with
 | Bool.true => bif Go.Eng.nI (Go.Eng.rowLen 1 (Go.Proofs.Ytiaddnmloonhgaa.openL key nonce op other).fst) != 0 then Bool.true else bif (Go.Proofs.Ytiaddnmloonhgaa.openL key nonce op other).snd != 3 then (Go.Proofs.Ytiaddnmloonhgaa.openL key nonce op other).snd != 121 else Bool.false
 | Bool.false => !bif Go.Eng.nI (Go.Eng.rowLen 1 (Go.Proofs.Ytiaddnmloonhgaa.openL key nonce op other).fst) != 0 then Bool.true else bif (Go.Proofs.Ytiaddnmloonhgaa.openL key nonce op other).snd != 3 then (Go.Proofs.Ytiaddnmloonhgaa.openL key nonce op other).snd != 121 else Bool.false then
 bif
 match Bool.false with
 | Bool.true => bif Go.Eng.nI (Go.Eng.rowLen 1 (Go.Proofs.Ytiaddnmloonhgaa.openL key nonce op other).fst) != 0 then Bool.true else bif (Go.Proofs.Ytiaddnmloonhgaa.openL key nonce op other).snd != 3 then (Go.Proofs.Ytiaddnmloonhgaa.openL key nonce op other).snd != 121 else Bool.false
 | Bool.false => !bif Go.Eng.nI (Go.Eng.rowLen 1 (Go.Proofs.Ytiaddnmloonhgaa.openL key nonce op other).fst) != 0 then Bool.true else bif (Go.Proofs.Ytiaddnmloonhgaa.openL key nonce op other).snd != 3 then (Go.Proofs.Ytiaddnmloonhgaa.openL key nonce op other).snd != 121 else Bool.false then
 Option.none
 else
 let v78 : Bool := bif (Go.Proofs.Ytiaddnmloonhgaa.openL key nonce op other).snd != 3 then (Go.Proofs.Ytiaddnmloonhgaa.openL key nonce op other).snd != 121 else Bool.false;
 let v79 : Bool := bif Go.Eng.nI (Go.Eng.rowLen 1 (Go.Proofs.Ytiaddnmloonhgaa.openL key nonce op other).fst) != 0 then Bool.true else v78;
 bif v79 then k [Go.Eng.DV.v (Go.Eng.SV.one (Go.Eng.At.bool Bool.false))] else Option.none
 else
 bif
 match Bool.false with
 | Bool.true => bif Go.Eng.nI (Go.Eng.rowLen 1 (Go.Proofs.Ytiaddnmloonhgaa.openL key nonce op other).fst) != 0 then Bool.true else bif (Go.Proofs.Ytiaddnmloonhgaa.openL key nonce op other).snd != 3 then (Go.Proofs.Ytiaddnmloonhgaa.openL key nonce op other).snd != 121 else Bool.false
 | Bool.false => !bif Go.Eng.nI (Go.Eng.rowLen 1 (Go.Proofs.Ytiaddnmloonhgaa.openL key nonce op other).fst) != 0 then Bool.true else bif (Go.Proofs.Ytiaddnmloonhgaa.openL key nonce op other).snd != 3 then (Go.Proofs.Ytiaddnmloonhgaa.openL key nonce op other).snd != 121 else Bool.false then
 Option.none
 else
 let v80 : Bool := bif (Go.Proofs.Ytiaddnmloonhgaa.openL key nonce op other).snd != 3 then (Go.Proofs.Ytiaddnmloonhgaa.openL key nonce op other).snd != 121 else Bool.false;
 let v81 : Bool := bif Go.Eng.nI (Go.Eng.rowLen 1 (Go.Proofs.Ytiaddnmloonhgaa.openL key nonce op other).fst) != 0 then Bool.true else v80;
 bif v81 then k [Go.Eng.DV.v (Go.Eng.SV.one (Go.Eng.At.bool Bool.false))] else Option.none
 else
 bif
 match Bool.false with
 | Bool.true => bif Go.Eng.nI (Go.Eng.rowLen 1 (Go.Proofs.Ytiaddnmloonhgaa.openL key nonce op other).fst) != 0 then Bool.true else bif (Go.Proofs.Ytiaddnmloonhgaa.openL key nonce op other).snd != 3 then (Go.Proofs.Ytiaddnmloonhgaa.openL key nonce op other).snd != 121 else Bool.false
 | Bool.false => !bif Go.Eng.nI (Go.Eng.rowLen 1 (Go.Proofs.Ytiaddnmloonhgaa.openL key nonce op other).fst) != 0 then Bool.true else bif (Go.Proofs.Ytiaddnmloonhgaa.openL key nonce op other).snd != 3 then (Go.Proofs.Ytiaddnmloonhgaa.openL key nonce op other).snd != 121 else Bool.false then
 Option.none
 else
 bif
 match Bool.false with
 | Bool.true => bif Go.Eng.nI (Go.Eng.rowLen 1 (Go.Proofs.Ytiaddnmloonhgaa.openL key nonce op other).fst) != 0 then Bool.true else bif (Go.Proofs.Ytiaddnmloonhgaa.openL key nonce op other).snd != 3 then (Go.Proofs.Ytiaddnmloonhgaa.openL key nonce op other).snd != 121 else Bool.false
 | Bool.false => !bif Go.Eng.nI (Go.Eng.rowLen 1 (Go.Proofs.Ytiaddnmloonhgaa.openL key nonce op other).fst) != 0 then Bool.true else bif (Go.Proofs.Ytiaddnmloonhgaa.openL key nonce op other).snd != 3 then (Go.Proofs.Ytiaddnmloonhgaa.openL key nonce op other).snd != 121 else Bool.false then
 Option.none
 else
 let v82 : Bool := bif (Go.Proofs.Ytiaddnmloonhgaa.openL key nonce op other).snd != 3 then (Go.Proofs.Ytiaddnmloonhgaa.openL key nonce op other).snd != 121 else Bool.false;
 let v83 : Bool := bif Go.Eng.nI (Go.Eng.rowLen 1 (Go.Proofs.Ytiaddnmloonhgaa.openL key nonce op other).fst) != 0 then Bool.true else v82;
 bif v83 then k [Go.Eng.DV.v (Go.Eng.SV.one (Go.Eng.At.bool Bool.false))] else Option.none
 else
 bif
 match Bool.false with
 | Bool.true => bif Go.Eng.nI (Go.Eng.rowLen 1 (Go.Proofs.Ytiaddnmloonhgaa.openL key nonce op other).fst) != 0 then Bool.true else bif (Go.Proofs.Ytiaddnmloonhgaa.openL key nonce op other).snd != 3 then (Go.Proofs.Ytiaddnmloonhgaa.openL key nonce op other).snd != 121 else Bool.false
 | Bool.false => !bif Go.Eng.nI (Go.Eng.rowLen 1 (Go.Proofs.Ytiaddnmloonhgaa.openL key nonce op other).fst) != 0 then Bool.true else bif (Go.Proofs.Ytiaddnmloonhgaa.openL key nonce op other).snd != 3 then (Go.Proofs.Ytiaddnmloonhgaa.openL key nonce op other).snd != 121 else Bool.false then
 Option.none
 else
 bif
 match Bool.false with
 | Bool.true => bif Go.Eng.nI (Go.Eng.rowLen 1 (Go.Proofs.Ytiaddnmloonhgaa.openL key nonce op other).fst) != 0 then Bool.true else bif (Go.Proofs.Ytiaddnmloonhgaa.openL key nonce op other).snd != 3 then (Go.Proofs.Ytiaddnmloonhgaa.openL key nonce op other).snd != 121 else Bool.false
 | Bool.false => !bif Go.Eng.nI (Go.Eng.rowLen 1 (Go.Proofs.Ytiaddnmloonhgaa.openL key nonce op other).fst) != 0 then Bool.true else bif (Go.Proofs.Ytiaddnmloonhgaa.openL key nonce op other).snd != 3 then (Go.Proofs.Ytiaddnmloonhgaa.openL key nonce op other).snd != 121 else Bool.false then
 Option.none
 else
 bif
 match Bool.false with
 | Bool.true => bif Go.Eng.nI (Go.Eng.rowLen 1 (Go.Proofs.Ytiaddnmloonhgaa.openL key nonce op other).fst) != 0 then Bool.true else bif (Go.Proofs.Ytiaddnmloonhgaa.openL key nonce op other).snd != 3 then (Go.Proofs.Ytiaddnmloonhgaa.openL key nonce op other).snd != 121 else Bool.false
 | Bool.false => !bif Go.Eng.nI (Go.Eng.rowLen 1 (Go.Proofs.Ytiaddnmloonhgaa.openL key nonce op other).fst) != 0 then Bool.true else bif (Go.Proofs.Ytiaddnmloonhgaa.openL key nonce op other).snd != 3 then (Go.Proofs.Ytiaddnmloonhgaa.openL key nonce op other).snd != 121 else Bool.false then
 Option.none
 else
 let v84 : Bool := bif (Go.Proofs.Ytiaddnmloonhgaa.openL key nonce op other).snd != 3 then (Go.Proofs.Ytiaddnmloonhgaa.openL key nonce op other).snd != 121 else Bool.false;
 let v85 : Bool := bif Go.Eng.nI (Go.Eng.rowLen 1 (Go.Proofs.Ytiaddnmloonhgaa.openL key nonce op other).fst) != 0 then Bool.true else v84;
 bif v85 then k [Go.Eng.DV.v (Go.Eng.SV.one (Go.Eng.At.bool Bool.false))] else Option.none
 else
 bif
 match Bool.false with
 | Bool.true => bif Go.Eng.nI (Go.Eng.rowLen 1 (Go.Proofs.Ytiaddnmloonhgaa.openL key nonce op other).fst) != 0 then Bool.true else bif (Go.Proofs.Ytiaddnmloonhgaa.openL key nonce op other).snd != 3 then (Go.Proofs.Ytiaddnmloonhgaa.openL key nonce op other).snd != 121 else Bool.false
 | Bool.false => !bif Go.Eng.nI (Go.Eng.rowLen 1 (Go.Proofs.Ytiaddnmloonhgaa.openL key nonce op other).fst) != 0 then Bool.true else bif (Go.Proofs.Ytiaddnmloonhgaa.openL key nonce op other).snd != 3 then (Go.Proofs.Ytiaddnmloonhgaa.openL key nonce op other).snd != 121 else Bool.false then
 Option.none
 else
 bif
 match Bool.false with
 | Bool.true => bif Go.Eng.nI (Go.Eng.rowLen 1 (Go.Proofs.Ytiaddnmloonhgaa.openL key nonce op other).fst) != 0 then Bool.true else bif (Go.Proofs.Ytiaddnmloonhgaa.openL key nonce op other).snd != 3 then (Go.Proofs.Ytiaddnmloonhgaa.openL key nonce op other).snd != 121 else Bool.false
 | Bool.false => !bif Go.Eng.nI (Go.Eng.rowLen 1 (Go.Proofs.Ytiaddnmloonhgaa.openL key nonce op other).fst) != 0 then Bool.true else bif (Go.Proofs.Ytiaddnmloonhgaa.openL key nonce op other).snd != 3 then (Go.Proofs.Ytiaddnmloonhgaa.openL key nonce op other).snd != 121 else Bool.false then
 bif
 match Bool.false with
 | Bool.true => bif Go.Eng.nI (Go.Eng.rowLen 1 (Go.Proofs.Ytiaddnmloonhgaa.openL key nonce op other).fst) != 0 then Bool.true else bif (Go.Proofs.Ytiaddnmloonhgaa.openL key nonce op other).snd != 3 then (Go.Proofs.Ytiaddnmloonhgaa.openL key nonce op other).snd != 121 else Bool.false
 | Bool.false => !bif Go.Eng.nI (Go.Eng.rowLen 1 (Go.Proofs.Ytiaddnmloonhgaa.openL key nonce op other).fst) != 0 then Bool.true else bif (Go.Proofs.Ytiaddnmloonhgaa.openL key nonce op other).snd != 3 then (Go.Proofs.Ytiaddnmloonhgaa.openL key nonce op other).snd != 121 else Bool.false then
 bif
 match Bool.false with
 | Bool.true => bif Go.Eng.nI (Go.Eng.rowLen 1 (Go.Proofs.Ytiaddnmloonhgaa.openL key nonce op other).fst) != 0 then Bool.true else bif (Go.Proofs.Ytiaddnmloonhgaa.openL key nonce op other).snd != 3 then (Go.Proofs.Ytiaddnmloonhgaa.openL key nonce op other).snd != 121 else Bool.false
 | Bool.false => !bif Go.Eng.nI (Go.Eng.rowLen 1 (Go.Proofs.Ytiaddnmloonhgaa.openL key nonce op other).fst) != 0 then Bool.true else bif (Go.Proofs.Ytiaddnmloonhgaa.openL key nonce op other).snd != 3 then (Go.Proofs.Ytiaddnmloonhgaa.openL key nonce op other).snd != 121 else Bool.false then
 bif
 match Bool.false with
 | Bool.true => bif Go.Eng.nI (Go.Eng.rowLen 1 (Go.Proofs.Ytiaddnmloonhgaa.openL key nonce op other).fst) != 0 then Bool.true else bif (Go.Proofs.Ytiaddnmloonhgaa.openL key nonce op other).snd != 3 then (Go.Proofs.Ytiaddnmloonhgaa.openL key nonce op other).snd != 121 else Bool.false
 | Bool.false => !bif Go.Eng.nI (Go.Eng.rowLen 1 (Go.Proofs.Ytiaddnmloonhgaa.openL key nonce op other).fst) != 0 then Bool.true else bif (Go.Proofs.Ytiaddnmloonhgaa.openL key nonce op other).snd != 3 then (Go.Proofs.Ytiaddnmloonhgaa.openL key nonce op other).snd != 121 else Bool.false then
 Option.none
 else
 let v86 : Bool := bif (Go.Proofs.Ytiaddnmloonhgaa.openL key nonce op other).snd != 3 then (Go.Proofs.Ytiaddnmloonhgaa.openL key nonce op other).snd != 121 else Bool.false;
 let v87 : Bool := bif Go.Eng.nI (Go.Eng.rowLen 1 (Go.Proofs.Ytiaddnmloonhgaa.openL key nonce op other).fst) != 0 then Bool.true else v86;
 bif v87 then k [Go.Eng.DV.v (Go.Eng.SV.one (Go.Eng.At.bool Bool.false))] else Option.none
 else
 bif
 match Bool.false with
 | Bool.true => bif Go.Eng.nI (Go.Eng.rowLen 1 (Go.Proofs.Ytiaddnmloonhgaa.openL key nonce op other).fst) != 0 then Bool.true else bif (Go.Proofs.Ytiaddnmloonhgaa.openL key nonce op other).snd != 3 then (Go.Proofs.Ytiaddnmloonhgaa.openL key nonce op other).snd != 121 else Bool.false
 | Bool.false => !bif Go.Eng.nI (Go.Eng.rowLen 1 (Go.Proofs.Ytiaddnmloonhgaa.openL key nonce op other).fst) != 0 then Bool.true else bif (Go.Proofs.Ytiaddnmloonhgaa.openL key nonce op other).snd != 3 then (Go.Proofs.Ytiaddnmloonhgaa.openL key nonce op other).snd != 121 else Bool.false then
 Option.none
 else
 let v88 : Bool := bif (Go.Proofs.Ytiaddnmloonhgaa.openL key nonce op other).snd != 3 then (Go.Proofs.Ytiaddnmloonhgaa.openL key nonce op other).snd != 121 else Bool.false;
 let v89 : Bool := bif Go.Eng.nI (Go.Eng.rowLen 1 (Go.Proofs.Ytiaddnmloonhgaa.openL key nonce op other).fst) != 0 then Bool.true else v88;
 bif v89 then k [Go.Eng.DV.v (Go.Eng.SV.one (Go.Eng.At.bool Bool.false))] else Option.none
 else
 bif
 match Bool.false with
 | Bool.true => bif Go.Eng.nI (Go.Eng.rowLen 1 (Go.Proofs.Ytiaddnmloonhgaa.openL key nonce op other).fst) != 0 then Bool.true else bif (Go.Proofs.Ytiaddnmloonhgaa.openL key nonce op other).snd != 3 then (Go.Proofs.Ytiaddnmloonhgaa.openL key nonce op other).snd != 121 else Bool.false
 | Bool.false => !bif Go.Eng.nI (Go.Eng.rowLen 1 (Go.Proofs.Ytiaddnmloonhgaa.openL key nonce op other).fst) != 0 then Bool.true else bif (Go.Proofs.Ytiaddnmloonhgaa.openL key nonce op other).snd != 3 then (Go.Proofs.Ytiaddnmloonhgaa.openL key nonce op other).snd != 121 else Bool.false then
 Option.none
 else
 bif
 match Bool.false with
 | Bool.true => bif Go.Eng.nI (Go.Eng.rowLen 1 (Go.Proofs.Ytiaddnmloonhgaa.openL key nonce op other).fst) != 0 then Bool.true else bif (Go.Proofs.Ytiaddnmloonhgaa.openL key nonce op other).snd != 3 then (Go.Proofs.Ytiaddnmloonhgaa.openL key nonce op other).snd != 121 else Bool.false
 | Bool.false => !bif Go.Eng.nI (Go.Eng.rowLen 1 (Go.Proofs.Ytiaddnmloonhgaa.openL key nonce op other).fst) != 0 then Bool.true else bif (Go.Proofs.Ytiaddnmloonhgaa.openL key nonce op other).snd != 3 then (Go.Proofs.Ytiaddnmloonhgaa.openL key nonce op other).snd != 121 else Bool.false then
 Option.none
 else
 let v90 : Bool := bif (Go.Proofs.Ytiaddnmloonhgaa.openL key nonce op other).snd != 3 then (Go.Proofs.Ytiaddnmloonhgaa.openL key nonce op other).snd != 121 else Bool.false;
 let v91 : Bool := bif Go.Eng.nI (Go.Eng.rowLen 1 (Go.Proofs.Ytiaddnmloonhgaa.openL key nonce op other).fst) != 0 then Bool.true else v90;
 bif v91 then k [Go.Eng.DV.v (Go.Eng.SV.one (Go.Eng.At.bool Bool.false))] else Option.none
 else
 bif
 match Bool.false with
 | Bool.true => bif Go.Eng.nI (Go.Eng.rowLen 1 (Go.Proofs.Ytiaddnmloonhgaa.openL key nonce op other).fst) != 0 then Bool.true else bif (Go.Proofs.Ytiaddnmloonhgaa.openL key nonce op other).snd != 3 then (Go.Proofs.Ytiaddnmloonhgaa.openL key nonce op other).snd != 121 else Bool.false
 | Bool.false => !bif Go.Eng.nI (Go.Eng.rowLen 1 (Go.Proofs.Ytiaddnmloonhgaa.openL key nonce op other).fst) != 0 then Bool.true else bif (Go.Proofs.Ytiaddnmloonhgaa.openL key nonce op other).snd != 3 then (Go.Proofs.Ytiaddnmloonhgaa.openL key nonce op other).snd != 121 else Bool.false then
 Option.none
 else
 bif
 match Bool.false with
 | Bool.true => bif Go.Eng.nI (Go.Eng.rowLen 1 (Go.Proofs.Ytiaddnmloonhgaa.openL key nonce op other).fst) != 0 then Bool.true else bif (Go.Proofs.Ytiaddnmloonhgaa.openL key nonce op other).snd != 3 then (Go.Proofs.Ytiaddnmloonhgaa.openL key nonce op other).snd != 121 else Bool.false
 | Bool.false => !bif Go.Eng.nI (Go.Eng.rowLen 1 (Go.Proofs.Ytiaddnmloonhgaa.openL key nonce op other).fst) != 0 then Bool.true else bif (Go.Proofs.Ytiaddnmloonhgaa.openL key nonce op other).snd != 3 then (Go.Proofs.Ytiaddnmloonhgaa.openL key nonce op other).snd != 121 else Bool.false then
 Option.none
 else
 bif
 match Bool.false with
 | Bool.true => bif Go.Eng.nI (Go.Eng.rowLen 1 (Go.Proofs.Ytiaddnmloonhgaa.openL key nonce op other).fst) != 0 then Bool.true else bif (Go.Proofs.Ytiaddnmloonhgaa.openL key nonce op other).snd != 3 then (Go.Proofs.Ytiaddnmloonhgaa.openL key nonce op other).snd != 121 else Bool.false
 | Bool.false => !bif Go.Eng.nI (Go.Eng.rowLen 1 (Go.Proofs.Ytiaddnmloonhgaa.openL key nonce op other).fst) != 0 then Bool.true else bif (Go.Proofs.Ytiaddnmloonhgaa.openL key nonce op other).snd != 3 then (Go.Proofs.Ytiaddnmloonhgaa.openL key nonce op other).snd != 121 else Bool.false then
 Option.none
 else
 let v92 : Bool := bif (Go.Proofs.Ytiaddnmloonhgaa.openL key nonce op other).snd != 3 then (Go.Proofs.Ytiaddnmloonhgaa.openL key nonce op other).snd != 121 else Bool.false;
 let v93 : Bool := bif Go.Eng.nI (Go.Eng.rowLen 1 (Go.Proofs.Ytiaddnmloonhgaa.openL key nonce op other).fst) != 0 then Bool.true else v92;
 bif v93 then k [Go.Eng.DV.v (Go.Eng.SV.one (Go.Eng.At.bool Bool.false))] else Option.none
 else bif Go.Eng.nI (Go.Eng.rowLen 1 (Go.Proofs.Ytiaddnmloonhgaa.openL key nonce op other).fst) != 0 then k [Go.Eng.DV.v (Go.Eng.SV.one (Go.Eng.At.bool Bool.false))] else Option.none
 else
 bif
 match Bool.false with
 | Bool.true => Go.Eng.nI (Go.Eng.rowLen 1 (Go.Proofs.Ytiaddnmloonhgaa.openL key nonce op other).fst) != 0
 | Bool.false => !Go.Eng.nI (Go.Eng.rowLen 1 (Go.Proofs.Ytiaddnmloonhgaa.openL key nonce op other).fst) != 0 then
 bif (Go.Proofs.Ytiaddnmloonhgaa.openL key nonce op other).snd != 3 then bif Go.Eng.nI (Go.Eng.rowLen 1 (Go.Proofs.Ytiaddnmloonhgaa.openL key nonce op other).fst) != 0 then k [Go.Eng.DV.v (Go.Eng.SV.one (Go.Eng.At.bool Bool.false))] else Option.none
 else
 bif
 match Bool.false with
 | Bool.true => bif Go.Eng.nI (Go.Eng.rowLen 1 (Go.Proofs.Ytiaddnmloonhgaa.openL key nonce op other).fst) != 0 then Bool.true else Bool.false
 | Bool.false => !bif Go.Eng.nI (Go.Eng.rowLen 1 (Go.Proofs.Ytiaddnmloonhgaa.openL key nonce op other).fst) != 0 then Bool.true else Bool.false then
 bif
 match Bool.false with
 | Bool.true => bif Go.Eng.nI (Go.Eng.rowLen 1 (Go.Proofs.Ytiaddnmloonhgaa.openL key nonce op other).fst) != 0 then Bool.true else Bool.false
 | Bool.false => !bif Go.Eng.nI (Go.Eng.rowLen 1 (Go.Proofs.Ytiaddnmloonhgaa.openL key nonce op other).fst) != 0 then Bool.true else Bool.false then
 bif
 match Bool.false with
 | Bool.true => bif Go.Eng.nI (Go.Eng.rowLen 1 (Go.Proofs.Ytiaddnmloonhgaa.openL key nonce op other).fst) != 0 then Bool.true else Bool.false
 | Bool.false => !bif Go.Eng.nI (Go.Eng.rowLen 1 (Go.Proofs.Ytiaddnmloonhgaa.openL key nonce op other).fst) != 0 then Bool.true else Bool.false then
 bif
 match Bool.false with
 | Bool.true => bif Go.Eng.nI (Go.Eng.rowLen 1 (Go.Proofs.Ytiaddnmloonhgaa.openL key nonce op other).fst) != 0 then Bool.true else Bool.false
 | Bool.false => !bif Go.Eng.nI (Go.Eng.rowLen 1 (Go.Proofs.Ytiaddnmloonhgaa.openL key nonce op other).fst) != 0 then Bool.true else Bool.false then
 bif
 match Bool.false with
 | Bool.true => bif Go.Eng.nI (Go.Eng.rowLen 1 (Go.Proofs.Ytiaddnmloonhgaa.openL key nonce op other).fst) != 0 then Bool.true else Bool.false
 | Bool.false => !bif Go.Eng.nI (Go.Eng.rowLen 1 (Go.Proofs.Ytiaddnmloonhgaa.openL key nonce op other).fst) != 0 then Bool.true else Bool.false then
 bif
 match Bool.false with
 | Bool.true => bif Go.Eng.nI (Go.Eng.rowLen 1 (Go.Proofs.Ytiaddnmloonhgaa.openL key nonce op other).fst) != 0 then Bool.true else Bool.false
 | Bool.false => !bif Go.Eng.nI (Go.Eng.rowLen 1 (Go.Proofs.Ytiaddnmloonhgaa.openL key nonce op other).fst) != 0 then Bool.true else Bool.false then
 let v94 : Bool := bif Go.Eng.nI (Go.Eng.rowLen 1 (Go.Proofs.Ytiaddnmloonhgaa.openL key nonce op other).fst) != 0 then Bool.true else Bool.false;
 let v95 : Bool := bif v94 then Bool.true else !((Go.Proofs.Ytiaddnmloonhgaa.openL key nonce op other).snd == 3) == Decidable.decide (Go.Eng.nI (Go.Eng.rowLen 1 other) < 16);
 bif v95 then k [Go.Eng.DV.v (Go.Eng.SV.one (Go.Eng.At.bool Bool.false))]
 else
 bif Decidable.decide (0 ≤ 1) && (Decidable.decide (1 < 4294967296) && text.length.ble Go.Proofs.Ytiaddnmloonhgaa.lim) then
 bif Go.Proofs.Ytiaddnmloonhgaa.tooFar (Int.toNat 1) text.length then k [Go.Eng.DV.v (Go.Eng.SV.one (Go.Eng.At.bool Bool.false))]
 else
 bif Decidable.decide (0 ≤ 1) && (Decidable.decide (1 < 4294967296) && (Go.Proofs.Ytiaddnmloonhgaa.streamL key (Int.toNat 1) nonce text).length.ble Go.Proofs.Ytiaddnmloonhgaa.lim) then
 bif Go.Proofs.Ytiaddnmloonhgaa.tooFar (Int.toNat 1) (Go.Proofs.Ytiaddnmloonhgaa.streamL key (Int.toNat 1) nonce text).length then k [Go.Eng.DV.v (Go.Eng.SV.one (Go.Eng.At.bool Bool.false))]
 else
 bif (Go.Proofs.Ytiaddnmloonhgaa.streamL key (Int.toNat 1) nonce (Go.Proofs.Ytiaddnmloonhgaa.streamL key (Int.toNat 1) nonce text)).length.ble Go.Proofs.Ytiaddnmloonhgaa.lim then
 bif
 match Bool.true with
 | Bool.true => bif bif 0 == 0 then 0 == 0 else Bool.false then Decidable.decide (Go.Proofs.Ytiaddnmloonhgaa.streamL key (Int.toNat 1) nonce (Go.Proofs.Ytiaddnmloonhgaa.streamL key (Int.toNat 1) nonce text) = text) else Bool.false
 | Bool.false => !bif bif 0 == 0 then 0 == 0 else Bool.false then Decidable.decide (Go.Proofs.Ytiaddnmloonhgaa.streamL key (Int.toNat 1) nonce (Go.Proofs.Ytiaddnmloonhgaa.streamL key (Int.toNat 1) nonce text) = text) else Bool.false then
 bif
 match Bool.true with
 | Bool.true => bif bif 0 == 0 then 0 == 0 else Bool.false then Decidable.decide (Go.Proofs.Ytiaddnmloonhgaa.streamL key (Int.toNat 1) nonce (Go.Proofs.Ytiaddnmloonhgaa.streamL key (Int.toNat 1) nonce text) = text) else Bool.false
 | Bool.false => !bif bif 0 == 0 then 0 == 0 else Bool.false then Decidable.decide (Go.Proofs.Ytiaddnmloonhgaa.streamL key (Int.toNat 1) nonce (Go.Proofs.Ytiaddnmloonhgaa.streamL key (Int.toNat 1) nonce text) = text) else Bool.false then
 bif
 match Bool.true with
 | Bool.true => bif bif 0 == 0 then 0 == 0 else Bool.false then Decidable.decide (Go.Proofs.Ytiaddnmloonhgaa.streamL key (Int.toNat 1) nonce (Go.Proofs.Ytiaddnmloonhgaa.streamL key (Int.toNat 1) nonce text) = text) else Bool.false
 | Bool.false => !bif bif 0 == 0 then 0 == 0 else Bool.false then Decidable.decide (Go.Proofs.Ytiaddnmloonhgaa.streamL key (Int.toNat 1) nonce (Go.Proofs.Ytiaddnmloonhgaa.streamL key (Int.toNat 1) nonce text) = text) else Bool.false then
 bif
 match Bool.true with
 | Bool.true => bif bif 0 == 0 then 0 == 0 else Bool.false then Decidable.decide (Go.Proofs.Ytiaddnmloonhgaa.streamL key (Int.toNat 1) nonce (Go.Proofs.Ytiaddnmloonhgaa.streamL key (Int.toNat 1) nonce text) = text) else Bool.false
 | Bool.false => !bif bif 0 == 0 then 0 == 0 else Bool.false then Decidable.decide (Go.Proofs.Ytiaddnmloonhgaa.streamL key (Int.toNat 1) nonce (Go.Proofs.Ytiaddnmloonhgaa.streamL key (Int.toNat 1) nonce text) = text) else Bool.false then
 bif
 match Bool.true with
 | Bool.true => bif bif 0 == 0 then 0 == 0 else Bool.false then Decidable.decide (Go.Proofs.Ytiaddnmloonhgaa.streamL key (Int.toNat 1) nonce (Go.Proofs.Ytiaddnmloonhgaa.streamL key (Int.toNat 1) nonce text) = text) else Bool.false
 | Bool.false => !bif bif 0 == 0 then 0 == 0 else Bool.false then Decidable.decide (Go.Proofs.Ytiaddnmloonhgaa.streamL key (Int.toNat 1) nonce (Go.Proofs.Ytiaddnmloonhgaa.streamL key (Int.toNat 1) nonce text) = text) else Bool.false then
 bif Go.Eng.hiOk (Option.some (Go.Eng.nI (Go.Eng.rowLen 1 text))) (Go.Eng.rowLen 1 (Go.Proofs.Ytiaddnmloonhgaa.sealL key nonce op text)) then
 bif
 match Bool.true with
 | Bool.true => bif bif 0 == 0 then 0 == 0 else Bool.false then Decidable.decide (Go.Proofs.Ytiaddnmloonhgaa.streamL key (Int.toNat 1) nonce (Go.Proofs.Ytiaddnmloonhgaa.streamL key (Int.toNat 1) nonce text) = text) else Bool.false
 | Bool.false => !bif bif 0 == 0 then 0 == 0 else Bool.false then Decidable.decide (Go.Proofs.Ytiaddnmloonhgaa.streamL key (Int.toNat 1) nonce (Go.Proofs.Ytiaddnmloonhgaa.streamL key (Int.toNat 1) nonce text) = text) else Bool.false then
 bif (Go.Proofs.Ytiaddnmloonhgaa.streamL key (Int.toNat 1) nonce text).length.ble Go.Proofs.Ytiaddnmloonhgaa.lim then
 let v96 : Bool := bif 0 == 0 then 0 == 0 else Bool.false;
 let v97 : Bool := bif v96 then Decidable.decide (Go.Proofs.Ytiaddnmloonhgaa.streamL key (Int.toNat 1) nonce (Go.Proofs.Ytiaddnmloonhgaa.streamL key (Int.toNat 1) nonce text) = text) else Bool.false;
 let v98 : List Int := Go.Eng.sub (Go.Proofs.Ytiaddnmloonhgaa.sealL key nonce op text) (Go.Eng.plusO Go.Eng.Off.z 1 Option.none) (Go.Eng.mulE (Go.Eng.subN (Go.Eng.hiNat (Option.some (Go.Eng.nI (Go.Eng.rowLen 1 text))) (Go.Eng.rowLen 1 (Go.Proofs.Ytiaddnmloonhgaa.sealL key nonce op text))) Option.none) 1);
 let v99 : Bool := bif v97 then Decidable.decide (Go.Proofs.Ytiaddnmloonhgaa.streamL key (Int.toNat 1) nonce text = v98) else Bool.false;
 k [Go.Eng.DV.v (Go.Eng.SV.one (Go.Eng.At.bool v99))]
 else Option.none
 else
 let v100 : Bool := bif 0 == 0 then 0 == 0 else Bool.false;
 let v101 : Bool := bif v100 then Decidable.decide (Go.Proofs.Ytiaddnmloonhgaa.streamL key (Int.toNat 1) nonce (Go.Proofs.Ytiaddnmloonhgaa.streamL key (Int.toNat 1) nonce text) = text) else Bool.false;
 bif v101 then Option.none else k [Go.Eng.DV.v (Go.Eng.SV.one (Go.Eng.At.bool Bool.false))]
 else Option.none
 else
 bif
 match Bool.true with
 | Bool.true => bif bif 0 == 0 then 0 == 0 else Bool.false then Decidable.decide (Go.Proofs.Ytiaddnmloonhgaa.streamL key (Int.toNat 1) nonce (Go.Proofs.Ytiaddnmloonhgaa.streamL key (Int.toNat 1) nonce text) = text) else Bool.false
 | Bool.false => !bif bif 0 == 0 then 0 == 0 else Bool.false then Decidable.decide (Go.Proofs.Ytiaddnmloonhgaa.streamL key (Int.toNat 1) nonce (Go.Proofs.Ytiaddnmloonhgaa.streamL key (Int.toNat 1) nonce text) = text) else Bool.false then
 Option.none
 else
 let v102 : Bool := bif 0 == 0 then 0 == 0 else Bool.false;
 let v103 : Bool := bif v102 then Decidable.decide (Go.Proofs.Ytiaddnmloonhgaa.streamL key (Int.toNat 1) nonce (Go.Proofs.Ytiaddnmloonhgaa.streamL key (Int.toNat 1) nonce text) = text) else Bool.false;
 bif v103 then Option.none else k [Go.Eng.DV.v (Go.Eng.SV.one (Go.Eng.At.bool Bool.false))]
 else
 bif
 match Bool.true with
 | Bool.true => bif bif 0 == 0 then 0 == 0 else Bool.false then Decidable.decide (Go.Proofs.Ytiaddnmloonhgaa.streamL key (Int.toNat 1) nonce (Go.Proofs.Ytiaddnmloonhgaa.streamL key (Int.toNat 1) nonce text) = text) else Bool.false
 | Bool.false => !bif bif 0 == 0 then 0 == 0 else Bool.false then Decidable.decide (Go.Proofs.Ytiaddnmloonhgaa.streamL key (Int.toNat 1) nonce (Go.Proofs.Ytiaddnmloonhgaa.streamL key (Int.toNat 1) nonce text) = text) else Bool.false then
 Option.none
 else
 bif
 match Bool.true with
 | Bool.true => bif bif 0 == 0 then 0 == 0 else Bool.false then Decidable.decide (Go.Proofs.Ytiaddnmloonhgaa.streamL key (Int.toNat 1) nonce (Go.Proofs.Ytiaddnmloonhgaa.streamL key (Int.toNat 1) nonce text) = text) else Bool.false
 | Bool.false => !bif bif 0 == 0 then 0 == 0 else Bool.false then Decidable.decide (Go.Proofs.Ytiaddnmloonhgaa.streamL key (Int.toNat 1) nonce (Go.Proofs.Ytiaddnmloonhgaa.streamL key (Int.toNat 1) nonce text) = text) else Bool.false then
 Option.none
 else
 let v104 : Bool := bif 0 == 0 then 0 == 0 else Bool.false;
 let v105 : Bool := bif v104 then Decidable.decide (Go.Proofs.Ytiaddnmloonhgaa.streamL key (Int.toNat 1) nonce (Go.Proofs.Ytiaddnmloonhgaa.streamL key (Int.toNat 1) nonce text) = text) else Bool.false;
 bif v105 then Option.none else k [Go.Eng.DV.v (Go.Eng.SV.one (Go.Eng.At.bool Bool.false))]
 else
 bif
 match Bool.true with
 | Bool.true => bif bif 0 == 0 then 0 == 0 else Bool.false then Decidable.decide (Go.Proofs.Ytiaddnmloonhgaa.streamL key (Int.toNat 1) nonce (Go.Proofs.Ytiaddnmloonhgaa.streamL key (Int.toNat 1) nonce text) = text) else Bool.false
 | Bool.false => !bif bif 0 == 0 then 0 == 0 else Bool.false then Decidable.decide (Go.Proofs.Ytiaddnmloonhgaa.streamL key (Int.toNat 1) nonce (Go.Proofs.Ytiaddnmloonhgaa.streamL key (Int.toNat 1) nonce text) = text) else Bool.false then
 Option.none
 else
 bif
 match Bool.true with
 | Bool.true => bif bif 0 == 0 then 0 == 0 else Bool.false then Decidable.decide (Go.Proofs.Ytiaddnmloonhgaa.streamL key (Int.toNat 1) nonce (Go.Proofs.Ytiaddnmloonhgaa.streamL key (Int.toNat 1) nonce text) = text) else Bool.false
 | Bool.false => !bif bif 0 == 0 then 0 == 0 else Bool.false then Decidable.decide (Go.Proofs.Ytiaddnmloonhgaa.streamL key (Int.toNat 1) nonce (Go.Proofs.Ytiaddnmloonhgaa.streamL key (Int.toNat 1) nonce text) = text) else Bool.false then
 Option.none
 else
 bif
 match Bool.true with
 | Bool.true => bif bif 0 == 0 then 0 == 0 else Bool.false then Decidable.decide (Go.Proofs.Ytiaddnmloonhgaa.streamL key (Int.toNat 1) nonce (Go.Proofs.Ytiaddnmloonhgaa.streamL key (Int.toNat 1) nonce text) = text) else Bool.false
 | Bool.false => !bif bif 0 == 0 then 0 == 0 else Bool.false then Decidable.decide (Go.Proofs.Ytiaddnmloonhgaa.streamL key (Int.toNat 1) nonce (Go.Proofs.Ytiaddnmloonhgaa.streamL key (Int.toNat 1) nonce text) = text) else Bool.false then
 Option.none
 else
 let v106 : Bool := bif 0 == 0 then 0 == 0 else Bool.false;
 let v107 : Bool := bif v106 then Decidable.decide (Go.Proofs.Ytiaddnmloonhgaa.streamL key (Int.toNat 1) nonce (Go.Proofs.Ytiaddnmloonhgaa.streamL key (Int.toNat 1) nonce text) = text) else Bool.false;
 bif v107 then Option.none else k [Go.Eng.DV.v (Go.Eng.SV.one (Go.Eng.At.bool Bool.false))]
 else
 bif
 match Bool.true with
 | Bool.true => bif bif 0 == 0 then 0 == 0 else Bool.false then Decidable.decide (Go.Proofs.Ytiaddnmloonhgaa.streamL key (Int.toNat 1) nonce (Go.Proofs.Ytiaddnmloonhgaa.streamL key (Int.toNat 1) nonce text) = text) else Bool.false
 | Bool.false => !bif bif 0 == 0 then 0 == 0 else Bool.false then Decidable.decide (Go.Proofs.Ytiaddnmloonhgaa.streamL key (Int.toNat 1) nonce (Go.Proofs.Ytiaddnmloonhgaa.streamL key (Int.toNat 1) nonce text) = text) else Bool.false then
 bif
 match Bool.true with
 | Bool.true => bif bif 0 == 0 then 0 == 0 else Bool.false then Decidable.decide (Go.Proofs.Ytiaddnmloonhgaa.streamL key (Int.toNat 1) nonce (Go.Proofs.Ytiaddnmloonhgaa.streamL key (Int.toNat 1) nonce text) = text) else Bool.false
 | Bool.false => !bif bif 0 == 0 then 0 == 0 else Bool.false then Decidable.decide (Go.Proofs.Ytiaddnmloonhgaa.streamL key (Int.toNat 1) nonce (Go.Proofs.Ytiaddnmloonhgaa.streamL key (Int.toNat 1) nonce text) = text) else Bool.false then
 bif
 match Bool.true with
 | Bool.true => bif bif 0 == 0 then 0 == 0 else Bool.false then Decidable.decide (Go.Proofs.Ytiaddnmloonhgaa.streamL key (Int.toNat 1) nonce (Go.Proofs.Ytiaddnmloonhgaa.streamL key (Int.toNat 1) nonce text) = text) else Bool.false
 | Bool.false => !bif bif 0 == 0 then 0 == 0 else Bool.false then Decidable.decide (Go.Proofs.Ytiaddnmloonhgaa.streamL key (Int.toNat 1) nonce (Go.Proofs.Ytiaddnmloonhgaa.streamL key (Int.toNat 1) nonce text) = text) else Bool.false then
 Option.none
 else
 bif
 match Bool.true with
 | Bool.true => bif bif 0 == 0 then 0 == 0 else Bool.false then Decidable.decide (Go.Proofs.Ytiaddnmloonhgaa.streamL key (Int.toNat 1) nonce (Go.Proofs.Ytiaddnmloonhgaa.streamL key (Int.toNat 1) nonce text) = text) else Bool.false
 | Bool.false => !bif bif 0 == 0 then 0 == 0 else Bool.false then Decidable.decide (Go.Proofs.Ytiaddnmloonhgaa.streamL key (Int.toNat 1) nonce (Go.Proofs.Ytiaddnmloonhgaa.streamL key (Int.toNat 1) nonce text) = text) else Bool.false then
 Option.none
 else
 let v108 : Bool := bif 0 == 0 then 0 == 0 else Bool.false;
 let v109 : Bool := bif v108 then Decidable.decide (Go.Proofs.Ytiaddnmloonhgaa.streamL key (Int.toNat 1) nonce (Go.Proofs.Ytiaddnmloonhgaa.streamL key (Int.toNat 1) nonce text) = text) else Bool.false;
 bif v109 then Option.none else k [Go.Eng.DV.v (Go.Eng.SV.one (Go.Eng.At.bool Bool.false))]
 else
 bif
 match Bool.true with
 | Bool.true => bif bif 0 == 0 then 0 == 0 else Bool.false then Decidable.decide (Go.Proofs.Ytiaddnmloonhgaa.streamL key (Int.toNat 1) nonce (Go.Proofs.Ytiaddnmloonhgaa.streamL key (Int.toNat 1) nonce text) = text) else Bool.false
 | Bool.false => !bif bif 0 == 0 then 0 == 0 else Bool.false then Decidable.decide (Go.Proofs.Ytiaddnmloonhgaa.streamL key (Int.toNat 1) nonce (Go.Proofs.Ytiaddnmloonhgaa.streamL key (Int.toNat 1) nonce text) = text) else Bool.false then
 Option.none
 else
 bif
 match Bool.true with
 | Bool.true => bif bif 0 == 0 then 0 == 0 else Bool.false then Decidable.decide (Go.Proofs.Ytiaddnmloonhgaa.streamL key (Int.toNat 1) nonce (Go.Proofs.Ytiaddnmloonhgaa.streamL key (Int.toNat 1) nonce text) = text) else Bool.false
 | Bool.false => !bif bif 0 == 0 then 0 == 0 else Bool.false then Decidable.decide (Go.Proofs.Ytiaddnmloonhgaa.streamL key (Int.toNat 1) nonce (Go.Proofs.Ytiaddnmloonhgaa.streamL key (Int.toNat 1) nonce text) = text) else Bool.false then
 Option.none
 else
 let v110 : Bool := bif 0 == 0 then 0 == 0 else Bool.false;
 let v111 : Bool := bif v110 then Decidable.decide (Go.Proofs.Ytiaddnmloonhgaa.streamL key (Int.toNat 1) nonce (Go.Proofs.Ytiaddnmloonhgaa.streamL key (Int.toNat 1) nonce text) = text) else Bool.false;
 bif v111 then Option.none else k [Go.Eng.DV.v (Go.Eng.SV.one (Go.Eng.At.bool Bool.false))]
 else
 bif
 match Bool.true with
 | Bool.true => bif bif 0 == 0 then 0 == 0 else Bool.false then Decidable.decide (Go.Proofs.Ytiaddnmloonhgaa.streamL key (Int.toNat 1) nonce (Go.Proofs.Ytiaddnmloonhgaa.streamL key (Int.toNat 1) nonce text) = text) else Bool.false
 | Bool.false => !bif bif 0 == 0 then 0 == 0 else Bool.false then Decidable.decide (Go.Proofs.Ytiaddnmloonhgaa.streamL key (Int.toNat 1) nonce (Go.Proofs.Ytiaddnmloonhgaa.streamL key (Int.toNat 1) nonce text) = text) else Bool.false then
 Option.none
 else
 bif
 match Bool.true with
 | Bool.true => bif bif 0 == 0 then 0 == 0 else Bool.false then Decidable.decide (Go.Proofs.Ytiaddnmloonhgaa.streamL key (Int.toNat 1) nonce (Go.Proofs.Ytiaddnmloonhgaa.streamL key (Int.toNat 1) nonce text) = text) else Bool.false
 | Bool.false => !bif bif 0 == 0 then 0 == 0 else Bool.false then Decidable.decide (Go.Proofs.Ytiaddnmloonhgaa.streamL key (Int.toNat 1) nonce (Go.Proofs.Ytiaddnmloonhgaa.streamL key (Int.toNat 1) nonce text) = text) else Bool.false then
 Option.none
 else
 bif
 match Bool.true with
 | Bool.true => bif bif 0 == 0 then 0 == 0 else Bool.false then Decidable.decide (Go.Proofs.Ytiaddnmloonhgaa.streamL key (Int.toNat 1) nonce (Go.Proofs.Ytiaddnmloonhgaa.streamL key (Int.toNat 1) nonce text) = text) else Bool.false
 | Bool.false => !bif bif 0 == 0 then 0 == 0 else Bool.false then Decidable.decide (Go.Proofs.Ytiaddnmloonhgaa.streamL key (Int.toNat 1) nonce (Go.Proofs.Ytiaddnmloonhgaa.streamL key (Int.toNat 1) nonce text) = text) else Bool.false then
 Option.none
 else
 let v112 : Bool := bif 0 == 0 then 0 == 0 else Bool.false;
 let v113 : Bool := bif v112 then Decidable.decide (Go.Proofs.Ytiaddnmloonhgaa.streamL key (Int.toNat 1) nonce (Go.Proofs.Ytiaddnmloonhgaa.streamL key (Int.toNat 1) nonce text) = text) else Bool.false;
 bif v113 then Option.none else k [Go.Eng.DV.v (Go.Eng.SV.one (Go.Eng.At.bool Bool.false))]
 else
 bif
 match Bool.true with
 | Bool.true => bif bif 0 == 0 then 0 == 0 else Bool.false then Decidable.decide (Go.Proofs.Ytiaddnmloonhgaa.streamL key (Int.toNat 1) nonce (Go.Proofs.Ytiaddnmloonhgaa.streamL key (Int.toNat 1) nonce text) = text) else Bool.false
 | Bool.false => !bif bif 0 == 0 then 0 == 0 else Bool.false then Decidable.decide (Go.Proofs.Ytiaddnmloonhgaa.streamL key (Int.toNat 1) nonce (Go.Proofs.Ytiaddnmloonhgaa.streamL key (Int.toNat 1) nonce text) = text) else Bool.false then
 bif
 match Bool.true with
 | Bool.true => bif bif 0 == 0 then 0 == 0 else Bool.false then Decidable.decide (Go.Proofs.Ytiaddnmloonhgaa.streamL key (Int.toNat 1) nonce (Go.Proofs.Ytiaddnmloonhgaa.streamL key (Int.toNat 1) nonce text) = text) else Bool.false
 | Bool.false => !bif bif 0 == 0 then 0 == 0 else Bool.false then Decidable.decide (Go.Proofs.Ytiaddnmloonhgaa.streamL key (Int.toNat 1) nonce (Go.Proofs.Ytiaddnmloonhgaa.streamL key (Int.toNat 1) nonce text) = text) else Bool.false then
 bif
 match Bool.true with
 | Bool.true => bif bif 0 == 0 then 0 == 0 else Bool.false then Decidable.decide (Go.Proofs.Ytiaddnmloonhgaa.streamL key (Int.toNat 1) nonce (Go.Proofs.Ytiaddnmloonhgaa.streamL key (Int.toNat 1) nonce text) = text) else Bool.false
 | Bool.false => !bif bif 0 == 0 then 0 == 0 else Bool.false then Decidable.decide (Go.Proofs.Ytiaddnmloonhgaa.streamL key (Int.toNat 1) nonce (Go.Proofs.Ytiaddnmloonhgaa.streamL key (Int.toNat 1) nonce text) = text) else Bool.false then
 bif
 match Bool.true with
 | Bool.true => bif bif 0 == 0 then 0 == 0 else Bool.false then Decidable.decide (Go.Proofs.Ytiaddnmloonhgaa.streamL key (Int.toNat 1) nonce (Go.Proofs.Ytiaddnmloonhgaa.streamL key (Int.toNat 1) nonce text) = text) else Bool.false
 | Bool.false => !bif bif 0 == 0 then 0 == 0 else Bool.false then Decidable.decide (Go.Proofs.Ytiaddnmloonhgaa.streamL key (Int.toNat 1) nonce (Go.Proofs.Ytiaddnmloonhgaa.streamL key (Int.toNat 1) nonce text) = text) else Bool.false then
 bif Go.Eng.hiOk (Option.some (Go.Eng.nI (Go.Eng.rowLen 1 text))) (Go.Eng.rowLen 1 (Go.Proofs.Ytiaddnmloonhgaa.sealL key nonce op text)) then
 bif
 match Bool.true with
 | Bool.true => bif bif 0 == 0 then 0 == 0 else Bool.false then Decidable.decide (Go.Proofs.Ytiaddnmloonhgaa.streamL key (Int.toNat 1) nonce (Go.Proofs.Ytiaddnmloonhgaa.streamL key (Int.toNat 1) nonce text) = text) else Bool.false
 | Bool.false => !bif bif 0 == 0 then 0 == 0 else Bool.false then Decidable.decide (Go.Proofs.Ytiaddnmloonhgaa.streamL key (Int.toNat 1) nonce (Go.Proofs.Ytiaddnmloonhgaa.streamL key (Int.toNat 1) nonce text) = text) else Bool.false then
 Option.none
 else
 let v114 : Bool := bif 0 == 0 then 0 == 0 else Bool.false;
 let v115 : Bool := bif v114 then Decidable.decide (Go.Proofs.Ytiaddnmloonhgaa.streamL key (Int.toNat 1) nonce (Go.Proofs.Ytiaddnmloonhgaa.streamL key (Int.toNat 1) nonce text) = text) else Bool.false;
 bif v115 then Option.none else k [Go.Eng.DV.v (Go.Eng.SV.one (Go.Eng.At.bool Bool.false))]
 else Option.none
 else
 bif
 match Bool.true with
 | Bool.true => bif bif 0 == 0 then 0 == 0 else Bool.false then Decidable.decide (Go.Proofs.Ytiaddnmloonhgaa.streamL key (Int.toNat 1) nonce (Go.Proofs.Ytiaddnmloonhgaa.streamL key (Int.toNat 1) nonce text) = text) else Bool.false
 | Bool.false => !bif bif 0 == 0 then 0 == 0 else Bool.false then Decidable.decide (Go.Proofs.Ytiaddnmloonhgaa.streamL key (Int.toNat 1) nonce (Go.Proofs.Ytiaddnmloonhgaa.streamL key (Int.toNat 1) nonce text) = text) else Bool.false then
 Option.none
 else
 let v116 : Bool := bif 0 == 0 then 0 == 0 else Bool.false;
 let v117 : Bool := bif v116 then Decidable.decide (Go.Proofs.Ytiaddnmloonhgaa.streamL key (Int.toNat 1) nonce (Go.Proofs.Ytiaddnmloonhgaa.streamL key (Int.toNat 1) nonce text) = text) else Bool.false;
 bif v117 then Option.none else k [Go.Eng.DV.v (Go.Eng.SV.one (Go.Eng.At.bool Bool.false))]
 else
 bif
 match Bool.true with
 | Bool.true => bif bif 0 == 0 then 0 == 0 else Bool.false then Decidable.decide (Go.Proofs.Ytiaddnmloonhgaa.streamL key (Int.toNat 1) nonce (Go.Proofs.Ytiaddnmloonhgaa.streamL key (Int.toNat 1) nonce text) = text) else Bool.false
 | Bool.false => !bif bif 0 == 0 then 0 == 0 else Bool.false then Decidable.decide (Go.Proofs.Ytiaddnmloonhgaa.streamL key (Int.toNat 1) nonce (Go.Proofs.Ytiaddnmloonhgaa.streamL key (Int.toNat 1) nonce text) = text) else Bool.false then
 Option.none
 else
 bif
 match Bool.true with
 | Bool.true => bif bif 0 == 0 then 0 == 0 else Bool.false then Decidable.decide (Go.Proofs.Ytiaddnmloonhgaa.streamL key (Int.toNat 1) nonce (Go.Proofs.Ytiaddnmloonhgaa.streamL key (Int.toNat 1) nonce text) = text) else Bool.false
 | Bool.false => !bif bif 0 == 0 then 0 == 0 else Bool.false then Decidable.decide (Go.Proofs.Ytiaddnmloonhgaa.streamL key (Int.toNat 1) nonce (Go.Proofs.Ytiaddnmloonhgaa.streamL key (Int.toNat 1) nonce text) = text) else Bool.false then
 Option.none
 else
 let v118 : Bool := bif 0 == 0 then 0 == 0 else Bool.false;
 let v119 : Bool := bif v118 then Decidable.decide (Go.Proofs.Ytiaddnmloonhgaa.streamL key (Int.toNat 1) nonce (Go.Proofs.Ytiaddnmloonhgaa.streamL key (Int.toNat 1) nonce text) = text) else Bool.false;
 bif v119 then Option.none else k [Go.Eng.DV.v (Go.Eng.SV.one (Go.Eng.At.bool Bool.false))]
 else
 bif
 match Bool.true with
 | Bool.true => bif bif 0 == 0 then 0 == 0 else Bool.false then Decidable.decide (Go.Proofs.Ytiaddnmloonhgaa.streamL key (Int.toNat 1) nonce (Go.Proofs.Ytiaddnmloonhgaa.streamL key (Int.toNat 1) nonce text) = text) else Bool.false
 | Bool.false => !bif bif 0 == 0 then 0 == 0 else Bool.false then Decidable.decide (Go.Proofs.Ytiaddnmloonhgaa.streamL key (Int.toNat 1) nonce (Go.Proofs.Ytiaddnmloonhgaa.streamL key (Int.toNat 1) nonce text) = text) else Bool.false then
 Option.none
 else
 bif
 match Bool.true with
 | Bool.true => bif bif 0 == 0 then 0 == 0 else Bool.false then Decidable.decide (Go.Proofs.Ytiaddnmloonhgaa.streamL key (Int.toNat 1) nonce (Go.Proofs.Ytiaddnmloonhgaa.streamL key (Int.toNat 1) nonce text) = text) else Bool.false
 | Bool.false => !bif bif 0 == 0 then 0 == 0 else Bool.false then Decidable.decide (Go.Proofs.Ytiaddnmloonhgaa.streamL key (Int.toNat 1) nonce (Go.Proofs.Ytiaddnmloonhgaa.streamL key (Int.toNat 1) nonce text) = text) else Bool.false then
 Option.none
 else
 bif
 match Bool.true with
 | Bool.true => bif bif 0 == 0 then 0 == 0 else Bool.false then Decidable.decide (Go.Proofs.Ytiaddnmloonhgaa.streamL key (Int.toNat 1) nonce (Go.Proofs.Ytiaddnmloonhgaa.streamL key (Int.toNat 1) nonce text) = text) else Bool.false
 | Bool.false => !bif bif 0 == 0 then 0 == 0 else Bool.false then Decidable.decide (Go.Proofs.Ytiaddnmloonhgaa.streamL key (Int.toNat 1) nonce (Go.Proofs.Ytiaddnmloonhgaa.streamL key (Int.toNat 1) nonce text) = text) else Bool.false then
 Option.none
 else
 let v120 : Bool := bif 0 == 0 then 0 == 0 else Bool.false;
 let v121 : Bool := bif v120 then Decidable.decide (Go.Proofs.Ytiaddnmloonhgaa.streamL key (Int.toNat 1) nonce (Go.Proofs.Ytiaddnmloonhgaa.streamL key (Int.toNat 1) nonce text) = text) else Bool.false;
 bif v121 then Option.none else k [Go.Eng.DV.v (Go.Eng.SV.one (Go.Eng.At.bool Bool.false))]
 else
 bif
 match Bool.true with
 | Bool.true => bif bif 0 == 0 then 0 == 0 else Bool.false then Decidable.decide (Go.Proofs.Ytiaddnmloonhgaa.streamL key (Int.toNat 1) nonce (Go.Proofs.Ytiaddnmloonhgaa.streamL key (Int.toNat 1) nonce text) = text) else Bool.false
 | Bool.false => !bif bif 0 == 0 then 0 == 0 else Bool.false then Decidable.decide (Go.Proofs.Ytiaddnmloonhgaa.streamL key (Int.toNat 1) nonce (Go.Proofs.Ytiaddnmloonhgaa.streamL key (Int.toNat 1) nonce text) = text) else Bool.false then
 bif
 match Bool.true with
 | Bool.true => bif bif 0 == 0 then 0 == 0 else Bool.false then Decidable.decide (Go.Proofs.Ytiaddnmloonhgaa.streamL key (Int.toNat 1) nonce (Go.Proofs.Ytiaddnmloonhgaa.streamL key (Int.toNat 1) nonce text) = text) else Bool.false
 | Bool.false => !bif bif 0 == 0 then 0 == 0 else Bool.false then Decidable.decide (Go.Proofs.Ytiaddnmloonhgaa.streamL key (Int.toNat 1) nonce (Go.Proofs.Ytiaddnmloonhgaa.streamL key (Int.toNat 1) nonce text) = text) else Bool.false then
 bif
 match Bool.true with
 | Bool.true => bif bif 0 == 0 then 0 == 0 else Bool.false then Decidable.decide (Go.Proofs.Ytiaddnmloonhgaa.streamL key (Int.toNat 1) nonce (Go.Proofs.Ytiaddnmloonhgaa.streamL key (Int.toNat 1) nonce text) = text) else Bool.false
 | Bool.false => !bif bif 0 == 0 then 0 == 0 else Bool.false then Decidable.decide (Go.Proofs.Ytiaddnmloonhgaa.streamL key (Int.toNat 1) nonce (Go.Proofs.Ytiaddnmloonhgaa.streamL key (Int.toNat 1) nonce text) = text) else Bool.false then
 Option.none
 else
 bif
 match Bool.true with
 | Bool.true => bif bif 0 == 0 then 0 == 0 else Bool.false then Decidable.decide (Go.Proofs.Ytiaddnmloonhgaa.streamL key (Int.toNat 1) nonce (Go.Proofs.Ytiaddnmloonhgaa.streamL key (Int.toNat 1) nonce text) = text) else Bool.false
 | Bool.false => !bif bif 0 == 0 then 0 == 0 else Bool.false then Decidable.decide (Go.Proofs.Ytiaddnmloonhgaa.streamL key (Int.toNat 1) nonce (Go.Proofs.Ytiaddnmloonhgaa.streamL key (Int.toNat 1) nonce text) = text) else Bool.false then
 Option.none
 else
 let v122 : Bool := bif 0 == 0 then 0 == 0 else Bool.false;
 let v123 : Bool := bif v122 then Decidable.decide (Go.Proofs.Ytiaddnmloonhgaa.streamL key (Int.toNat 1) nonce (Go.Proofs.Ytiaddnmloonhgaa.streamL key (Int.toNat 1) nonce text) = text) else Bool.false;
 bif v123 then Option.none else k [Go.Eng.DV.v (Go.Eng.SV.one (Go.Eng.At.bool Bool.false))]
 else
 bif
 match Bool.true with
 | Bool.true => bif bif 0 == 0 then 0 == 0 else Bool.false then Decidable.decide (Go.Proofs.Ytiaddnmloonhgaa.streamL key (Int.toNat 1) nonce (Go.Proofs.Ytiaddnmloonhgaa.streamL key (Int.toNat 1) nonce text) = text) else Bool.false
 | Bool.false => !bif bif 0 == 0 then 0 == 0 else Bool.false then Decidable.decide (Go.Proofs.Ytiaddnmloonhgaa.streamL key (Int.toNat 1) nonce (Go.Proofs.Ytiaddnmloonhgaa.streamL key (Int.toNat 1) nonce text) = text) else Bool.false then
 Option.none
 else
 bif
 match Bool.true with
 | Bool.true => bif bif 0 == 0 then 0 == 0 else Bool.false then Decidable.decide (Go.Proofs.Ytiaddnmloonhgaa.streamL key (Int.toNat 1) nonce (Go.Proofs.Ytiaddnmloonhgaa.streamL key (Int.toNat 1) nonce text) = text) else Bool.false
 | Bool.false => !bif bif 0 == 0 then 0 == 0 else Bool.false then Decidable.decide (Go.Proofs.Ytiaddnmloonhgaa.streamL key (Int.toNat 1) nonce (Go.Proofs.Ytiaddnmloonhgaa.streamL key (Int.toNat 1) nonce text) = text) else Bool.false then
 Option.none
 else
 let v124 : Bool := bif 0 == 0 then 0 == 0 else Bool.false;
 let v125 : Bool := bif v124 then Decidable.decide (Go.Proofs.Ytiaddnmloonhgaa.streamL key (Int.toNat 1) nonce (Go.Proofs.Ytiaddnmloonhgaa.streamL key (Int.toNat 1) nonce text) = text) else Bool.false;
 bif v125 then Option.none else k [Go.Eng.DV.v (Go.Eng.SV.one (Go.Eng.At.bool Bool.false))]
 else
 bif
 match Bool.true with
 | Bool.true => bif bif 0 == 0 then 0 == 0 else Bool.false then Decidable.decide (Go.Proofs.Ytiaddnmloonhgaa.streamL key (Int.toNat 1) nonce (Go.Proofs.Ytiaddnmloonhgaa.streamL key (Int.toNat 1) nonce text) = text) else Bool.false
 | Bool.false => !bif bif 0 == 0 then 0 == 0 else Bool.false then Decidable.decide (Go.Proofs.Ytiaddnmloonhgaa.streamL key (Int.toNat 1) nonce (Go.Proofs.Ytiaddnmloonhgaa.streamL key (Int.toNat 1) nonce text) = text) else Bool.false then
 Option.none
 else
 bif
 match Bool.true with
 | Bool.true => bif bif 0 == 0 then 0 == 0 else Bool.false then Decidable.decide (Go.Proofs.Ytiaddnmloonhgaa.streamL key (Int.toNat 1) nonce (Go.Proofs.Ytiaddnmloonhgaa.streamL key (Int.toNat 1) nonce text) = text) else Bool.false
 | Bool.false => !bif bif 0 == 0 then 0 == 0 else Bool.false then Decidable.decide (Go.Proofs.Ytiaddnmloonhgaa.streamL key (Int.toNat 1) nonce (Go.Proofs.Ytiaddnmloonhgaa.streamL key (Int.toNat 1) nonce text) = text) else Bool.false then
 Option.none
 else
 bif
 match Bool.true with
 | Bool.true => bif bif 0 == 0 then 0 == 0 else Bool.false then Decidable.decide (Go.Proofs.Ytiaddnmloonhgaa.streamL key (Int.toNat 1) nonce (Go.Proofs.Ytiaddnmloonhgaa.streamL key (Int.toNat 1) nonce text) = text) else Bool.false
 | Bool.false => !bif bif 0 == 0 then 0 == 0 else Bool.false then Decidable.decide (Go.Proofs.Ytiaddnmloonhgaa.streamL key (Int.toNat 1) nonce (Go.Proofs.Ytiaddnmloonhgaa.streamL key (Int.toNat 1) nonce text) = text) else Bool.false then
 Option.none
 else
 let v126 : Bool := bif 0 == 0 then 0 == 0 else Bool.false;
 let v127 : Bool := bif v126 then Decidable.decide (Go.Proofs.Ytiaddnmloonhgaa.streamL key (Int.toNat 1) nonce (Go.Proofs.Ytiaddnmloonhgaa.streamL key (Int.toNat 1) nonce text) = text) else Bool.false;
 bif v127 then Option.none else k [Go.Eng.DV.v (Go.Eng.SV.one (Go.Eng.At.bool Bool.false))]
 else Option.none
 else Option.none
 else Option.none
 else
 let v128 : Bool := bif Go.Eng.nI (Go.Eng.rowLen 1 (Go.Proofs.Ytiaddnmloonhgaa.openL key nonce op other).fst) != 0 then Bool.true else Bool.false;
 bif v128 then k [Go.Eng.DV.v (Go.Eng.SV.one (Go.Eng.At.bool Bool.false))] else Option.none
 else
 bif
 match Bool.false with
 | Bool.true => bif Go.Eng.nI (Go.Eng.rowLen 1 (Go.Proofs.Ytiaddnmloonhgaa.openL key nonce op other).fst) != 0 then Bool.true else Bool.false
 | Bool.false => !bif Go.Eng.nI (Go.Eng.rowLen 1 (Go.Proofs.Ytiaddnmloonhgaa.openL key nonce op other).fst) != 0 then Bool.true else Bool.false then
 Option.none
 else
 let v129 : Bool := bif Go.Eng.nI (Go.Eng.rowLen 1 (Go.Proofs.Ytiaddnmloonhgaa.openL key nonce op other).fst) != 0 then Bool.true else Bool.false;
 bif v129 then k [Go.Eng.DV.v (Go.Eng.SV.one (Go.Eng.At.bool Bool.false))] else Option.none
 else
 bif
 match Bool.false with
 | Bool.true => bif Go.Eng.nI (Go.Eng.rowLen 1 (Go.Proofs.Ytiaddnmloonhgaa.openL key nonce op other).fst) != 0 then Bool.true else Bool.false
 | Bool.false => !bif Go.Eng.nI (Go.Eng.rowLen 1 (Go.Proofs.Ytiaddnmloonhgaa.openL key nonce op other).fst) != 0 then Bool.true else Bool.false then
 Option.none
 else
 bif
 match Bool.false with
 | Bool.true => bif Go.Eng.nI (Go.Eng.rowLen 1 (Go.Proofs.Ytiaddnmloonhgaa.openL key nonce op other).fst) != 0 then Bool.true else Bool.false
 | Bool.false => !bif Go.Eng.nI (Go.Eng.rowLen 1 (Go.Proofs.Ytiaddnmloonhgaa.openL key nonce op other).fst) != 0 then Bool.true else Bool.false then
 Option.none
 else
 let v130 : Bool := bif Go.Eng.nI (Go.Eng.rowLen 1 (Go.Proofs.Ytiaddnmloonhgaa.openL key nonce op other).fst) != 0 then Bool.true else Bool.false;
 bif v130 then k [Go.Eng.DV.v (Go.Eng.SV.one (Go.Eng.At.bool Bool.false))] else Option.none
 else
 bif
 match Bool.false with
 | Bool.true => bif Go.Eng.nI (Go.Eng.rowLen 1 (Go.Proofs.Ytiaddnmloonhgaa.openL key nonce op other).fst) != 0 then Bool.true else Bool.false
 | Bool.false => !bif Go.Eng.nI (Go.Eng.rowLen 1 (Go.Proofs.Ytiaddnmloonhgaa.openL key nonce op other).fst) != 0 then Bool.true else Bool.false then
 Option.none
 else
 bif
 match Bool.false with
 | Bool.true => bif Go.Eng.nI (Go.Eng.rowLen 1 (Go.Proofs.Ytiaddnmloonhgaa.openL key nonce op other).fst) != 0 then Bool.true else Bool.false
 | Bool.false => !bif Go.Eng.nI (Go.Eng.rowLen 1 (Go.Proofs.Ytiaddnmloonhgaa.openL key nonce op other).fst) != 0 then Bool.true else Bool.false then
 Option.none
 else
 bif
 match Bool.false with
 | Bool.true => bif Go.Eng.nI (Go.Eng.rowLen 1 (Go.Proofs.Ytiaddnmloonhgaa.openL key nonce op other).fst) != 0 then Bool.true else Bool.false
 | Bool.false => !bif Go.Eng.nI (Go.Eng.rowLen 1 (Go.Proofs.Ytiaddnmloonhgaa.openL key nonce op other).fst) != 0 then Bool.true else Bool.false then
 Option.none
 else
 let v131 : Bool := bif Go.Eng.nI (Go.Eng.rowLen 1 (Go.Proofs.Ytiaddnmloonhgaa.openL key nonce op other).fst) != 0 then Bool.true else Bool.false;
 bif v131 then k [Go.Eng.DV.v (Go.Eng.SV.one (Go.Eng.At.bool Bool.false))] else Option.none
 else
 bif
 match Bool.false with
 | Bool.true => bif Go.Eng.nI (Go.Eng.rowLen 1 (Go.Proofs.Ytiaddnmloonhgaa.openL key nonce op other).fst) != 0 then Bool.true else Bool.false
 | Bool.false => !bif Go.Eng.nI (Go.Eng.rowLen 1 (Go.Proofs.Ytiaddnmloonhgaa.openL key nonce op other).fst) != 0 then Bool.true else Bool.false then
 bif
 match Bool.false with
 | Bool.true => bif Go.Eng.nI (Go.Eng.rowLen 1 (Go.Proofs.Ytiaddnmloonhgaa.openL key nonce op other).fst) != 0 then Bool.true else Bool.false
 | Bool.false => !bif Go.Eng.nI (Go.Eng.rowLen 1 (Go.Proofs.Ytiaddnmloonhgaa.openL key nonce op other).fst) != 0 then Bool.true else Bool.false then
 bif
 match Bool.false with
 | Bool.true => bif Go.Eng.nI (Go.Eng.rowLen 1 (Go.Proofs.Ytiaddnmloonhgaa.openL key nonce op other).fst) != 0 then Bool.true else Bool.false
 | Bool.false => !bif Go.Eng.nI (Go.Eng.rowLen 1 (Go.Proofs.Ytiaddnmloonhgaa.openL key nonce op other).fst) != 0 then Bool.true else Bool.false then
 bif
 match Bool.false with
 | Bool.true => bif Go.Eng.nI (Go.Eng.rowLen 1 (Go.Proofs.Ytiaddnmloonhgaa.openL key nonce op other).fst) != 0 then Bool.true else Bool.false
 | Bool.false => !bif Go.Eng.nI (Go.Eng.rowLen 1 (Go.Proofs.Ytiaddnmloonhgaa.openL key nonce op other).fst) != 0 then Bool.true else Bool.false then
 Option.none
 else
 let v132 : Bool := bif Go.Eng.nI (Go.Eng.rowLen 1 (Go.Proofs.Ytiaddnmloonhgaa.openL key nonce op other).fst) != 0 then Bool.true else Bool.false;
 bif v132 then k [Go.Eng.DV.v (Go.Eng.SV.one (Go.Eng.At.bool Bool.false))] else Option.none
 else
 bif
 match Bool.false with
 | Bool.true => bif Go.Eng.nI (Go.Eng.rowLen 1 (Go.Proofs.Ytiaddnmloonhgaa.openL key nonce op other).fst) != 0 then Bool.true else Bool.false
 | Bool.false => !bif Go.Eng.nI (Go.Eng.rowLen 1 (Go.Proofs.Ytiaddnmloonhgaa.openL key nonce op other).fst) != 0 then Bool.true else Bool.false then
 Option.none
 else
 let v133 : Bool := bif Go.Eng.nI (Go.Eng.rowLen 1 (Go.Proofs.Ytiaddnmloonhgaa.openL key nonce op other).fst) != 0 then Bool.true else Bool.false;
 bif v133 then k [Go.Eng.DV.v (Go.Eng.SV.one (Go.Eng.At.bool Bool.false))] else Option.none
 else
 bif
 match Bool.false with
 | Bool.true => bif Go.Eng.nI (Go.Eng.rowLen 1 (Go.Proofs.Ytiaddnmloonhgaa.openL key nonce op other).fst) != 0 then Bool.true else Bool.false
 | Bool.false => !bif Go.Eng.nI (Go.Eng.rowLen 1 (Go.Proofs.Ytiaddnmloonhgaa.openL key nonce op other).fst) != 0 then Bool.true else Bool.false then
 Option.none
 else
 bif
 match Bool.false with
 | Bool.true => bif Go.Eng.nI (Go.Eng.rowLen 1 (Go.Proofs.Ytiaddnmloonhgaa.openL key nonce op other).fst) != 0 then Bool.true else Bool.false
 | Bool.false => !bif Go.Eng.nI (Go.Eng.rowLen 1 (Go.Proofs.Ytiaddnmloonhgaa.openL key nonce op other).fst) != 0 then Bool.true else Bool.false then
 Option.none
 else
 let v134 : Bool := bif Go.Eng.nI (Go.Eng.rowLen 1 (Go.Proofs.Ytiaddnmloonhgaa.openL key nonce op other).fst) != 0 then Bool.true else Bool.false;
 bif v134 then k [Go.Eng.DV.v (Go.Eng.SV.one (Go.Eng.At.bool Bool.false))] else Option.none
 else
 bif
 match Bool.false with
 | Bool.true => bif Go.Eng.nI (Go.Eng.rowLen 1 (Go.Proofs.Ytiaddnmloonhgaa.openL key nonce op other).fst) != 0 then Bool.true else Bool.false
 | Bool.false => !bif Go.Eng.nI (Go.Eng.rowLen 1 (Go.Proofs.Ytiaddnmloonhgaa.openL key nonce op other).fst) != 0 then Bool.true else Bool.false then
 Option.none
 else
 bif
 match Bool.false with
 | Bool.true => bif Go.Eng.nI (Go.Eng.rowLen 1 (Go.Proofs.Ytiaddnmloonhgaa.openL key nonce op other).fst) != 0 then Bool.true else Bool.false
 | Bool.false => !bif Go.Eng.nI (Go.Eng.rowLen 1 (Go.Proofs.Ytiaddnmloonhgaa.openL key nonce op other).fst) != 0 then Bool.true else Bool.false then
 Option.none
 else
 bif
 match Bool.false with
 | Bool.true => bif Go.Eng.nI (Go.Eng.rowLen 1 (Go.Proofs.Ytiaddnmloonhgaa.openL key nonce op other).fst) != 0 then Bool.true else Bool.false
 | Bool.false => !bif Go.Eng.nI (Go.Eng.rowLen 1 (Go.Proofs.Ytiaddnmloonhgaa.openL key nonce op other).fst) != 0 then Bool.true else Bool.false then
 Option.none
 else
 let v135 : Bool := bif Go.Eng.nI (Go.Eng.rowLen 1 (Go.Proofs.Ytiaddnmloonhgaa.openL key nonce op other).fst) != 0 then Bool.true else Bool.false;
 bif v135 then k [Go.Eng.DV.v (Go.Eng.SV.one (Go.Eng.At.bool Bool.false))] else Option.none
 else
 bif
 match Bool.false with
 | Bool.true => bif Go.Eng.nI (Go.Eng.rowLen 1 (Go.Proofs.Ytiaddnmloonhgaa.openL key nonce op other).fst) != 0 then Bool.true else Bool.false
 | Bool.false => !bif Go.Eng.nI (Go.Eng.rowLen 1 (Go.Proofs.Ytiaddnmloonhgaa.openL key nonce op other).fst) != 0 then Bool.true else Bool.false then
 Option.none
 else
 bif
 match Bool.false with
 | Bool.true => bif Go.Eng.nI (Go.Eng.rowLen 1 (Go.Proofs.Ytiaddnmloonhgaa.openL key nonce op other).fst) != 0 then Bool.true else Bool.false
 | Bool.false => !bif Go.Eng.nI (Go.Eng.rowLen 1 (Go.Proofs.Ytiaddnmloonhgaa.openL key nonce op other).fst) != 0 then Bool.true else Bool.false then
 bif
 match Bool.false with
 | Bool.true => bif Go.Eng.nI (Go.Eng.rowLen 1 (Go.Proofs.Ytiaddnmloonhgaa.openL key nonce op other).fst) != 0 then Bool.true else Bool.false
 | Bool.false => !bif Go.Eng.nI (Go.Eng.rowLen 1 (Go.Proofs.Ytiaddnmloonhgaa.openL key nonce op other).fst) != 0 then Bool.true else Bool.false then
 bif
 match Bool.false with
 | Bool.true => bif Go.Eng.nI (Go.Eng.rowLen 1 (Go.Proofs.Ytiaddnmloonhgaa.openL key nonce op other).fst) != 0 then Bool.true else Bool.false
 | Bool.false => !bif Go.Eng.nI (Go.Eng.rowLen 1 (Go.Proofs.Ytiaddnmloonhgaa.openL key nonce op other).fst) != 0 then Bool.true else Bool.false then
 bif
 match Bool.false with
 | Bool.true => bif Go.Eng.nI (Go.Eng.rowLen 1 (Go.Proofs.Ytiaddnmloonhgaa.openL key nonce op other).fst) != 0 then Bool.true else Bool.false
 | Bool.false => !bif Go.Eng.nI (Go.Eng.rowLen 1 (Go.Proofs.Ytiaddnmloonhgaa.openL key nonce op other).fst) != 0 then Bool.true else Bool.false then
 Option.none
 else
 let v136 : Bool := bif Go.Eng.nI (Go.Eng.rowLen 1 (Go.Proofs.Ytiaddnmloonhgaa.openL key nonce op other).fst) != 0 then Bool.true else Bool.false;
 bif v136 then k [Go.Eng.DV.v (Go.Eng.SV.one (Go.Eng.At.bool Bool.false))] else Option.none
 else
 bif
 match Bool.false with
 | Bool.true => bif Go.Eng.nI (Go.Eng.rowLen 1 (Go.Proofs.Ytiaddnmloonhgaa.openL key nonce op other).fst) != 0 then Bool.true else Bool.false
 | Bool.false => !bif Go.Eng.nI (Go.Eng.rowLen 1 (Go.Proofs.Ytiaddnmloonhgaa.openL key nonce op other).fst) != 0 then Bool.true else Bool.false then
 Option.none
 else
 let v137 : Bool := bif Go.Eng.nI (Go.Eng.rowLen 1 (Go.Proofs.Ytiaddnmloonhgaa.openL key nonce op other).fst) != 0 then Bool.true else Bool.false;
 bif v137 then k [Go.Eng.DV.v (Go.Eng.SV.one (Go.Eng.At.bool Bool.false))] else Option.none
 else
 bif
 match Bool.false with
 | Bool.true => bif Go.Eng.nI (Go.Eng.rowLen 1 (Go.Proofs.Ytiaddnmloonhgaa.openL key nonce op other).fst) != 0 then Bool.true else Bool.false
 | Bool.false => !bif Go.Eng.nI (Go.Eng.rowLen 1 (Go.Proofs.Ytiaddnmloonhgaa.openL key nonce op other).fst) != 0 then Bool.true else Bool.false then
 Option.none
 else
 bif
 match Bool.false with
 | Bool.true => bif Go.Eng.nI (Go.Eng.rowLen 1 (Go.Proofs.Ytiaddnmloonhgaa.openL key nonce op other).fst) != 0 then Bool.true else Bool.false
 | Bool.false => !bif Go.Eng.nI (Go.Eng.rowLen 1 (Go.Proofs.Ytiaddnmloonhgaa.openL key nonce op other).fst) != 0 then Bool.true else Bool.false then
 Option.none
 else
 let v138 : Bool := bif Go.Eng.nI (Go.Eng.rowLen 1 (Go.Proofs.Ytiaddnmloonhgaa.openL key nonce op other).fst) != 0 then Bool.true else Bool.false;
 bif v138 then k [Go.Eng.DV.v (Go.Eng.SV.one (Go.Eng.At.bool Bool.false))] else Option.none
 else
 bif
 match Bool.false with
 | Bool.true => bif Go.Eng.nI (Go.Eng.rowLen 1 (Go.Proofs.Ytiaddnmloonhgaa.openL key nonce op other).fst) != 0 then Bool.true else Bool.false
 | Bool.false => !bif Go.Eng.nI (Go.Eng.rowLen 1 (Go.Proofs.Ytiaddnmloonhgaa.openL key nonce op other).fst) != 0 then Bool.true else Bool.false then
 Option.none
 else
 bif
 match Bool.false with
 | Bool.true => bif Go.Eng.nI (Go.Eng.rowLen 1 (Go.Proofs.Ytiaddnmloonhgaa.openL key nonce op other).fst) != 0 then Bool.true else Bool.false
 | Bool.false => !bif Go.Eng.nI (Go.Eng.rowLen 1 (Go.Proofs.Ytiaddnmloonhgaa.openL key nonce op other).fst) != 0 then Bool.true else Bool.false then
 Option.none
 else
 bif
 match Bool.false with
 | Bool.true => bif Go.Eng.nI (Go.Eng.rowLen 1 (Go.Proofs.Ytiaddnmloonhgaa.openL key nonce op other).fst) != 0 then Bool.true else Bool.false
 | Bool.false => !bif Go.Eng.nI (Go.Eng.rowLen 1 (Go.Proofs.Ytiaddnmloonhgaa.openL key nonce op other).fst) != 0 then Bool.true else Bool.false then
 Option.none
 else
 let v139 : Bool := bif Go.Eng.nI (Go.Eng.rowLen 1 (Go.Proofs.Ytiaddnmloonhgaa.openL key nonce op other).fst) != 0 then Bool.true else Bool.false;
 bif v139 then k [Go.Eng.DV.v (Go.Eng.SV.one (Go.Eng.At.bool Bool.false))] else Option.none
 else bif Go.Eng.nI (Go.Eng.rowLen 1 (Go.Proofs.Ytiaddnmloonhgaa.openL key nonce op other).fst) != 0 then k [Go.Eng.DV.v (Go.Eng.SV.one (Go.Eng.At.bool Bool.false))] else Option.none
 else
 bif
 match Bool.true with
 | Bool.true => (Go.Proofs.Ytiaddnmloonhgaa.openL key nonce op other).snd != 3
 | Bool.false => !(Go.Proofs.Ytiaddnmloonhgaa.openL key nonce op other).snd != 3 then
 Option.none
 else
 bif
 match Bool.false with
 | Bool.true => Go.Eng.nI (Go.Eng.rowLen 1 (Go.Proofs.Ytiaddnmloonhgaa.openL key nonce op other).fst) != 0
 | Bool.false => !Go.Eng.nI (Go.Eng.rowLen 1 (Go.Proofs.Ytiaddnmloonhgaa.openL key nonce op other).fst) != 0 then
 bif (Go.Proofs.Ytiaddnmloonhgaa.openL key nonce op other).snd != 3 then bif Go.Eng.nI (Go.Eng.rowLen 1 (Go.Proofs.Ytiaddnmloonhgaa.openL key nonce op other).fst) != 0 then k [Go.Eng.DV.v (Go.Eng.SV.one (Go.Eng.At.bool Bool.false))] else Option.none
 else
 bif
 match Bool.false with
 | Bool.true => bif Go.Eng.nI (Go.Eng.rowLen 1 (Go.Proofs.Ytiaddnmloonhgaa.openL key nonce op other).fst) != 0 then Bool.true else Bool.false
 | Bool.false => !bif Go.Eng.nI (Go.Eng.rowLen 1 (Go.Proofs.Ytiaddnmloonhgaa.openL key nonce op other).fst) != 0 then Bool.true else Bool.false then
 bif
 match Bool.false with
 | Bool.true => bif Go.Eng.nI (Go.Eng.rowLen 1 (Go.Proofs.Ytiaddnmloonhgaa.openL key nonce op other).fst) != 0 then Bool.true else Bool.false
 | Bool.false => !bif Go.Eng.nI (Go.Eng.rowLen 1 (Go.Proofs.Ytiaddnmloonhgaa.openL key nonce op other).fst) != 0 then Bool.true else Bool.false then
 bif
 match Bool.false with
 | Bool.true => bif Go.Eng.nI (Go.Eng.rowLen 1 (Go.Proofs.Ytiaddnmloonhgaa.openL key nonce op other).fst) != 0 then Bool.true else Bool.false
 | Bool.false => !bif Go.Eng.nI (Go.Eng.rowLen 1 (Go.Proofs.Ytiaddnmloonhgaa.openL key nonce op other).fst) != 0 then Bool.true else Bool.false then
 bif
 match Bool.false with
 | Bool.true => bif Go.Eng.nI (Go.Eng.rowLen 1 (Go.Proofs.Ytiaddnmloonhgaa.openL key nonce op other).fst) != 0 then Bool.true else Bool.false
 | Bool.false => !bif Go.Eng.nI (Go.Eng.rowLen 1 (Go.Proofs.Ytiaddnmloonhgaa.openL key nonce op other).fst) != 0 then Bool.true else Bool.false then
 bif
 match Bool.false with
 | Bool.true => bif Go.Eng.nI (Go.Eng.rowLen 1 (Go.Proofs.Ytiaddnmloonhgaa.openL key nonce op other).fst) != 0 then Bool.true else Bool.false
 | Bool.false => !bif Go.Eng.nI (Go.Eng.rowLen 1 (Go.Proofs.Ytiaddnmloonhgaa.openL key nonce op other).fst) != 0 then Bool.true else Bool.false then
 bif
 match Bool.false with
 | Bool.true => bif Go.Eng.nI (Go.Eng.rowLen 1 (Go.Proofs.Ytiaddnmloonhgaa.openL key nonce op other).fst) != 0 then Bool.true else Bool.false
 | Bool.false => !bif Go.Eng.nI (Go.Eng.rowLen 1 (Go.Proofs.Ytiaddnmloonhgaa.openL key nonce op other).fst) != 0 then Bool.true else Bool.false then
 let v140 : Bool := bif Go.Eng.nI (Go.Eng.rowLen 1 (Go.Proofs.Ytiaddnmloonhgaa.openL key nonce op other).fst) != 0 then Bool.true else Bool.false;
 let v141 : Bool := bif v140 then Bool.true else !((Go.Proofs.Ytiaddnmloonhgaa.openL key nonce op other).snd == 3) == Decidable.decide (Go.Eng.nI (Go.Eng.rowLen 1 other) < 16);
 bif v141 then k [Go.Eng.DV.v (Go.Eng.SV.one (Go.Eng.At.bool Bool.false))]
 else
 bif Decidable.decide (0 ≤ 1) && (Decidable.decide (1 < 4294967296) && text.length.ble Go.Proofs.Ytiaddnmloonhgaa.lim) then
 bif Go.Proofs.Ytiaddnmloonhgaa.tooFar (Int.toNat 1) text.length then k [Go.Eng.DV.v (Go.Eng.SV.one (Go.Eng.At.bool Bool.false))]
 else
 bif Decidable.decide (0 ≤ 1) && (Decidable.decide (1 < 4294967296) && (Go.Proofs.Ytiaddnmloonhgaa.streamL key (Int.toNat 1) nonce text).length.ble Go.Proofs.Ytiaddnmloonhgaa.lim) then
 bif Go.Proofs.Ytiaddnmloonhgaa.tooFar (Int.toNat 1) (Go.Proofs.Ytiaddnmloonhgaa.streamL key (Int.toNat 1) nonce text).length then k [Go.Eng.DV.v (Go.Eng.SV.one (Go.Eng.At.bool Bool.false))]
 else
 bif (Go.Proofs.Ytiaddnmloonhgaa.streamL key (Int.toNat 1) nonce (Go.Proofs.Ytiaddnmloonhgaa.streamL key (Int.toNat 1) nonce text)).length.ble Go.Proofs.Ytiaddnmloonhgaa.lim then
 bif
 match Bool.true with
 | Bool.true => bif bif 0 == 0 then 0 == 0 else Bool.false then Decidable.decide (Go.Proofs.Ytiaddnmloonhgaa.streamL key (Int.toNat 1) nonce (Go.Proofs.Ytiaddnmloonhgaa.streamL key (Int.toNat 1) nonce text) = text) else Bool.false
 | Bool.false => !bif bif 0 == 0 then 0 == 0 else Bool.false then Decidable.decide (Go.Proofs.Ytiaddnmloonhgaa.streamL key (Int.toNat 1) nonce (Go.Proofs.Ytiaddnmloonhgaa.streamL key (Int.toNat 1) nonce text) = text) else Bool.false then
 bif
 match Bool.true with
 | Bool.true => bif bif 0 == 0 then 0 == 0 else Bool.false then Decidable.decide (Go.Proofs.Ytiaddnmloonhgaa.streamL key (Int.toNat 1) nonce (Go.Proofs.Ytiaddnmloonhgaa.streamL key (Int.toNat 1) nonce text) = text) else Bool.false
 | Bool.false => !bif bif 0 == 0 then 0 == 0 else Bool.false then Decidable.decide (Go.Proofs.Ytiaddnmloonhgaa.streamL key (Int.toNat 1) nonce (Go.Proofs.Ytiaddnmloonhgaa.streamL key (Int.toNat 1) nonce text) = text) else Bool.false then
 bif
 match Bool.true with
 | Bool.true => bif bif 0 == 0 then 0 == 0 else Bool.false then Decidable.decide (Go.Proofs.Ytiaddnmloonhgaa.streamL key (Int.toNat 1) nonce (Go.Proofs.Ytiaddnmloonhgaa.streamL key (Int.toNat 1) nonce text) = text) else Bool.false
 | Bool.false => !bif bif 0 == 0 then 0 == 0 else Bool.false then Decidable.decide (Go.Proofs.Ytiaddnmloonhgaa.streamL key (Int.toNat 1) nonce (Go.Proofs.Ytiaddnmloonhgaa.streamL key (Int.toNat 1) nonce text) = text) else Bool.false then
 bif
 match Bool.true with
 | Bool.true => bif bif 0 == 0 then 0 == 0 else Bool.false then Decidable.decide (Go.Proofs.Ytiaddnmloonhgaa.streamL key (Int.toNat 1) nonce (Go.Proofs.Ytiaddnmloonhgaa.streamL key (Int.toNat 1) nonce text) = text) else Bool.false
 | Bool.false => !bif bif 0 == 0 then 0 == 0 else Bool.false then Decidable.decide (Go.Proofs.Ytiaddnmloonhgaa.streamL key (Int.toNat 1) nonce (Go.Proofs.Ytiaddnmloonhgaa.streamL key (Int.toNat 1) nonce text) = text) else Bool.false then
 bif
 match Bool.true with
 | Bool.true => bif bif 0 == 0 then 0 == 0 else Bool.false then Decidable.decide (Go.Proofs.Ytiaddnmloonhgaa.streamL key (Int.toNat 1) nonce (Go.Proofs.Ytiaddnmloonhgaa.streamL key (Int.toNat 1) nonce text) = text) else Bool.false
 | Bool.false => !bif bif 0 == 0 then 0 == 0 else Bool.false then Decidable.decide (Go.Proofs.Ytiaddnmloonhgaa.streamL key (Int.toNat 1) nonce (Go.Proofs.Ytiaddnmloonhgaa.streamL key (Int.toNat 1) nonce text) = text) else Bool.false then
 bif Go.Eng.hiOk (Option.some (Go.Eng.nI (Go.Eng.rowLen 1 text))) (Go.Eng.rowLen 1 (Go.Proofs.Ytiaddnmloonhgaa.sealL key nonce op text)) then
 bif
 match Bool.true with
 | Bool.true => bif bif 0 == 0 then 0 == 0 else Bool.false then Decidable.decide (Go.Proofs.Ytiaddnmloonhgaa.streamL key (Int.toNat 1) nonce (Go.Proofs.Ytiaddnmloonhgaa.streamL key (Int.toNat 1) nonce text) = text) else Bool.false
 | Bool.false => !bif bif 0 == 0 then 0 == 0 else Bool.false then Decidable.decide (Go.Proofs.Ytiaddnmloonhgaa.streamL key (Int.toNat 1) nonce (Go.Proofs.Ytiaddnmloonhgaa.streamL key (Int.toNat 1) nonce text) = text) else Bool.false then
 bif (Go.Proofs.Ytiaddnmloonhgaa.streamL key (Int.toNat 1) nonce text).length.ble Go.Proofs.Ytiaddnmloonhgaa.lim then
 let v142 : Bool := bif 0 == 0 then 0 == 0 else Bool.false;
 let v143 : Bool := bif v142 then Decidable.decide (Go.Proofs.Ytiaddnmloonhgaa.streamL key (Int.toNat 1) nonce (Go.Proofs.Ytiaddnmloonhgaa.streamL key (Int.toNat 1) nonce text) = text) else Bool.false;
 let v144 : List Int := Go.Eng.sub (Go.Proofs.Ytiaddnmloonhgaa.sealL key nonce op text) (Go.Eng.plusO Go.Eng.Off.z 1 Option.none) (Go.Eng.mulE (Go.Eng.subN (Go.Eng.hiNat (Option.some (Go.Eng.nI (Go.Eng.rowLen 1 text))) (Go.Eng.rowLen 1 (Go.Proofs.Ytiaddnmloonhgaa.sealL key nonce op text))) Option.none) 1);
 let v145 : Bool := bif v143 then Decidable.decide (Go.Proofs.Ytiaddnmloonhgaa.streamL key (Int.toNat 1) nonce text = v144) else Bool.false;
 k [Go.Eng.DV.v (Go.Eng.SV.one (Go.Eng.At.bool v145))]
 else Option.none
 else
 let v146 : Bool := bif 0 == 0 then 0 == 0 else Bool.false;
 let v147 : Bool := bif v146 then Decidable.decide (Go.Proofs.Ytiaddnmloonhgaa.streamL key (Int.toNat 1) nonce (Go.Proofs.Ytiaddnmloonhgaa.streamL key (Int.toNat 1) nonce text) = text) else Bool.false;
 bif v147 then Option.none else k [Go.Eng.DV.v (Go.Eng.SV.one (Go.Eng.At.bool Bool.false))]
 else Option.none
 else
 bif
 match Bool.true with
 | Bool.true => bif bif 0 == 0 then 0 == 0 else Bool.false then Decidable.decide (Go.Proofs.Ytiaddnmloonhgaa.streamL key (Int.toNat 1) nonce (Go.Proofs.Ytiaddnmloonhgaa.streamL key (Int.toNat 1) nonce text) = text) else Bool.false
 | Bool.false => !bif bif 0 == 0 then 0 == 0 else Bool.false then Decidable.decide (Go.Proofs.Ytiaddnmloonhgaa.streamL key (Int.toNat 1) nonce (Go.Proofs.Ytiaddnmloonhgaa.streamL key (Int.toNat 1) nonce text) = text) else Bool.false then
 Option.none
 else
 let v148 : Bool := bif 0 == 0 then 0 == 0 else Bool.false;
 let v149 : Bool := bif v148 then Decidable.decide (Go.Proofs.Ytiaddnmloonhgaa.streamL key (Int.toNat 1) nonce (Go.Proofs.Ytiaddnmloonhgaa.streamL key (Int.toNat 1) nonce text) = text) else Bool.false;
 bif v149 then Option.none else k [Go.Eng.DV.v (Go.Eng.SV.one (Go.Eng.At.bool Bool.false))]
 else
 bif
 match Bool.true with
 | Bool.true => bif bif 0 == 0 then 0 == 0 else Bool.false then Decidable.decide (Go.Proofs.Ytiaddnmloonhgaa.streamL key (Int.toNat 1) nonce (Go.Proofs.Ytiaddnmloonhgaa.streamL key (Int.toNat 1) nonce text) = text) else Bool.false
 | Bool.false => !bif bif 0 == 0 then 0 == 0 else Bool.false then Decidable.decide (Go.Proofs.Ytiaddnmloonhgaa.streamL key (Int.toNat 1) nonce (Go.Proofs.Ytiaddnmloonhgaa.streamL key (Int.toNat 1) nonce text) = text) else Bool.false then
 Option.none
 else
 bif
 match Bool.true with
 | Bool.true => bif bif 0 == 0 then 0 == 0 else Bool.false then Decidable.decide (Go.Proofs.Ytiaddnmloonhgaa.streamL key (Int.toNat 1) nonce (Go.Proofs.Ytiaddnmloonhgaa.streamL key (Int.toNat 1) nonce text) = text) else Bool.false
 | Bool.false => !bif bif 0 == 0 then 0 == 0 else Bool.false then Decidable.decide (Go.Proofs.Ytiaddnmloonhgaa.streamL key (Int.toNat 1) nonce (Go.Proofs.Ytiaddnmloonhgaa.streamL key (Int.toNat 1) nonce text) = text) else Bool.false then
 Option.none
 else
 let v150 : Bool := bif 0 == 0 then 0 == 0 else Bool.false;
 let v151 : Bool := bif v150 then Decidable.decide (Go.Proofs.Ytiaddnmloonhgaa.streamL key (Int.toNat 1) nonce (Go.Proofs.Ytiaddnmloonhgaa.streamL key (Int.toNat 1) nonce text) = text) else Bool.false;
 bif v151 then Option.none else k [Go.Eng.DV.v (Go.Eng.SV.one (Go.Eng.At.bool Bool.false))]
 else
 bif
 match Bool.true with
 | Bool.true => bif bif 0 == 0 then 0 == 0 else Bool.false then Decidable.decide (Go.Proofs.Ytiaddnmloonhgaa.streamL key (Int.toNat 1) nonce (Go.Proofs.Ytiaddnmloonhgaa.streamL key (Int.toNat 1) nonce text) = text) else Bool.false
 | Bool.false => !bif bif 0 == 0 then 0 == 0 else Bool.false then Decidable.decide (Go.Proofs.Ytiaddnmloonhgaa.streamL key (Int.toNat 1) nonce (Go.Proofs.Ytiaddnmloonhgaa.streamL key (Int.toNat 1) nonce text) = text) else Bool.false then
 Option.none
 else
 bif
 match Bool.true with
 | Bool.true => bif bif 0 == 0 then 0 == 0 else Bool.false then Decidable.decide (Go.Proofs.Ytiaddnmloonhgaa.streamL key (Int.toNat 1) nonce (Go.Proofs.Ytiaddnmloonhgaa.streamL key (Int.toNat 1) nonce text) = text) else Bool.false
 | Bool.false => !bif bif 0 == 0 then 0 == 0 else Bool.false then Decidable.decide (Go.Proofs.Ytiaddnmloonhgaa.streamL key (Int.toNat 1) nonce (Go.Proofs.Ytiaddnmloonhgaa.streamL key (Int.toNat 1) nonce text) = text) else Bool.false then
 Option.none
 else
 bif
 match Bool.true with
 | Bool.true => bif bif 0 == 0 then 0 == 0 else Bool.false then Decidable.decide (Go.Proofs.Ytiaddnmloonhgaa.streamL key (Int.toNat 1) nonce (Go.Proofs.Ytiaddnmloonhgaa.streamL key (Int.toNat 1) nonce text) = text) else Bool.false
 | Bool.false => !bif bif 0 == 0 then 0 == 0 else Bool.false then Decidable.decide (Go.Proofs.Ytiaddnmloonhgaa.streamL key (Int.toNat 1) nonce (Go.Proofs.Ytiaddnmloonhgaa.streamL key (Int.toNat 1) nonce text) = text) else Bool.false then
 Option.none
 else
 let v152 : Bool := bif 0 == 0 then 0 == 0 else Bool.false;
 let v153 : Bool := bif v152 then Decidable.decide (Go.Proofs.Ytiaddnmloonhgaa.streamL key (Int.toNat 1) nonce (Go.Proofs.Ytiaddnmloonhgaa.streamL key (Int.toNat 1) nonce text) = text) else Bool.false;
 bif v153 then Option.none else k [Go.Eng.DV.v (Go.Eng.SV.one (Go.Eng.At.bool Bool.false))]
 else
 bif
 match Bool.true with
 | Bool.true => bif bif 0 == 0 then 0 == 0 else Bool.false then Decidable.decide (Go.Proofs.Ytiaddnmloonhgaa.streamL key (Int.toNat 1) nonce (Go.Proofs.Ytiaddnmloonhgaa.streamL key (Int.toNat 1) nonce text) = text) else Bool.false
 | Bool.false => !bif bif 0 == 0 then 0 == 0 else Bool.false then Decidable.decide (Go.Proofs.Ytiaddnmloonhgaa.streamL key (Int.toNat 1) nonce (Go.Proofs.Ytiaddnmloonhgaa.streamL key (Int.toNat 1) nonce text) = text) else Bool.false then
 bif
 match Bool.true with
 | Bool.true => bif bif 0 == 0 then 0 == 0 else Bool.false then Decidable.decide (Go.Proofs.Ytiaddnmloonhgaa.streamL key (Int.toNat 1) nonce (Go.Proofs.Ytiaddnmloonhgaa.streamL key (Int.toNat 1) nonce text) = text) else Bool.false
 | Bool.false => !bif bif 0 == 0 then 0 == 0 else Bool.false then Decidable.decide (Go.Proofs.Ytiaddnmloonhgaa.streamL key (Int.toNat 1) nonce (Go.Proofs.Ytiaddnmloonhgaa.streamL key (Int.toNat 1) nonce text) = text) else Bool.false then
 bif
 match Bool.true with
 | Bool.true => bif bif 0 == 0 then 0 == 0 else Bool.false then Decidable.decide (Go.Proofs.Ytiaddnmloonhgaa.streamL key (Int.toNat 1) nonce (Go.Proofs.Ytiaddnmloonhgaa.streamL key (Int.toNat 1) nonce text) = text) else Bool.false
 | Bool.false => !bif bif 0 == 0 then 0 == 0 else Bool.false then Decidable.decide (Go.Proofs.Ytiaddnmloonhgaa.streamL key (Int.toNat 1) nonce (Go.Proofs.Ytiaddnmloonhgaa.streamL key (Int.toNat 1) nonce text) = text) else Bool.false then
 Option.none
 else
 bif
 match Bool.true with
 | Bool.true => bif bif 0 == 0 then 0 == 0 else Bool.false then Decidable.decide (Go.Proofs.Ytiaddnmloonhgaa.streamL key (Int.toNat 1) nonce (Go.Proofs.Ytiaddnmloonhgaa.streamL key (Int.toNat 1) nonce text) = text) else Bool.false
 | Bool.false => !bif bif 0 == 0 then 0 == 0 else Bool.false then Decidable.decide (Go.Proofs.Ytiaddnmloonhgaa.streamL key (Int.toNat 1) nonce (Go.Proofs.Ytiaddnmloonhgaa.streamL key (Int.toNat 1) nonce text) = text) else Bool.false then
 Option.none
 else
 let v154 : Bool := bif 0 == 0 then 0 == 0 else Bool.false;
 let v155 : Bool := bif v154 then Decidable.decide (Go.Proofs.Ytiaddnmloonhgaa.streamL key (Int.toNat 1) nonce (Go.Proofs.Ytiaddnmloonhgaa.streamL key (Int.toNat 1) nonce text) = text) else Bool.false;
 bif v155 then Option.none else k [Go.Eng.DV.v (Go.Eng.SV.one (Go.Eng.At.bool Bool.false))]
 else
 bif
 match Bool.true with
 | Bool.true => bif bif 0 == 0 then 0 == 0 else Bool.false then Decidable.decide (Go.Proofs.Ytiaddnmloonhgaa.streamL key (Int.toNat 1) nonce (Go.Proofs.Ytiaddnmloonhgaa.streamL key (Int.toNat 1) nonce text) = text) else Bool.false
 | Bool.false => !bif bif 0 == 0 then 0 == 0 else Bool.false then Decidable.decide (Go.Proofs.Ytiaddnmloonhgaa.streamL key (Int.toNat 1) nonce (Go.Proofs.Ytiaddnmloonhgaa.streamL key (Int.toNat 1) nonce text) = text) else Bool.false then
 Option.none
 else
 bif
 match Bool.true with
 | Bool.true => bif bif 0 == 0 then 0 == 0 else Bool.false then Decidable.decide (Go.Proofs.Ytiaddnmloonhgaa.streamL key (Int.toNat 1) nonce (Go.Proofs.Ytiaddnmloonhgaa.streamL key (Int.toNat 1) nonce text) = text) else Bool.false
 | Bool.false => !bif bif 0 == 0 then 0 == 0 else Bool.false then Decidable.decide (Go.Proofs.Ytiaddnmloonhgaa.streamL key (Int.toNat 1) nonce (Go.Proofs.Ytiaddnmloonhgaa.streamL key (Int.toNat 1) nonce text) = text) else Bool.false then
 Option.none
 else
 let v156 : Bool := bif 0 == 0 then 0 == 0 else Bool.false;
 let v157 : Bool := bif v156 then Decidable.decide (Go.Proofs.Ytiaddnmloonhgaa.streamL key (Int.toNat 1) nonce (Go.Proofs.Ytiaddnmloonhgaa.streamL key (Int.toNat 1) nonce text) = text) else Bool.false;
 bif v157 then Option.none else k [Go.Eng.DV.v (Go.Eng.SV.one (Go.Eng.At.bool Bool.false))]
 else
 bif
 match Bool.true with
 | Bool.true => bif bif 0 == 0 then 0 == 0 else Bool.false then Decidable.decide (Go.Proofs.Ytiaddnmloonhgaa.streamL key (Int.toNat 1) nonce (Go.Proofs.Ytiaddnmloonhgaa.streamL key (Int.toNat 1) nonce text) = text) else Bool.false
 | Bool.false => !bif bif 0 == 0 then 0 == 0 else Bool.false then Decidable.decide (Go.Proofs.Ytiaddnmloonhgaa.streamL key (Int.toNat 1) nonce (Go.Proofs.Ytiaddnmloonhgaa.streamL key (Int.toNat 1) nonce text) = text) else Bool.false then
 Option.none
 else
 bif
 match Bool.true with
 | Bool.true => bif bif 0 == 0 then 0 == 0 else Bool.false then Decidable.decide (Go.Proofs.Ytiaddnmloonhgaa.streamL key (Int.toNat 1) nonce (Go.Proofs.Ytiaddnmloonhgaa.streamL key (Int.toNat 1) nonce text) = text) else Bool.false
 | Bool.false => !bif bif 0 == 0 then 0 == 0 else Bool.false then Decidable.decide (Go.Proofs.Ytiaddnmloonhgaa.streamL key (Int.toNat 1) nonce (Go.Proofs.Ytiaddnmloonhgaa.streamL key (Int.toNat 1) nonce text) = text) else Bool.false then
 Option.none
 else
 bif
 match Bool.true with
 | Bool.true => bif bif 0 == 0 then 0 == 0 else Bool.false then Decidable.decide (Go.Proofs.Ytiaddnmloonhgaa.streamL key (Int.toNat 1) nonce (Go.Proofs.Ytiaddnmloonhgaa.streamL key (Int.toNat 1) nonce text) = text) else Bool.false
 | Bool.false => !bif bif 0 == 0 then 0 == 0 else Bool.false then Decidable.decide (Go.Proofs.Ytiaddnmloonhgaa.streamL key (Int.toNat 1) nonce (Go.Proofs.Ytiaddnmloonhgaa.streamL key (Int.toNat 1) nonce text) = text) else Bool.false then
 Option.none
 else
 let v158 : Bool := bif 0 == 0 then 0 == 0 else Bool.false;
 let v159 : Bool := bif v158 then Decidable.decide (Go.Proofs.Ytiaddnmloonhgaa.streamL key (Int.toNat 1) nonce (Go.Proofs.Ytiaddnmloonhgaa.streamL key (Int.toNat 1) nonce text) = text) else Bool.false;
 bif v159 then Option.none else k [Go.Eng.DV.v (Go.Eng.SV.one (Go.Eng.At.bool Bool.false))]
 else
 bif
 match Bool.true with
 | Bool.true => bif bif 0 == 0 then 0 == 0 else Bool.false then Decidable.decide (Go.Proofs.Ytiaddnmloonhgaa.streamL key (Int.toNat 1) nonce (Go.Proofs.Ytiaddnmloonhgaa.streamL key (Int.toNat 1) nonce text) = text) else Bool.false
 | Bool.false => !bif bif 0 == 0 then 0 == 0 else Bool.false then Decidable.decide (Go.Proofs.Ytiaddnmloonhgaa.streamL key (Int.toNat 1) nonce (Go.Proofs.Ytiaddnmloonhgaa.streamL key (Int.toNat 1) nonce text) = text) else Bool.false then
 bif
 match Bool.true with
 | Bool.true => bif bif 0 == 0 then 0 == 0 else Bool.false then Decidable.decide (Go.Proofs.Ytiaddnmloonhgaa.streamL key (Int.toNat 1) nonce (Go.Proofs.Ytiaddnmloonhgaa.streamL key (Int.toNat 1) nonce text) = text) else Bool.false
 | Bool.false => !bif bif 0 == 0 then 0 == 0 else Bool.false then Decidable.decide (Go.Proofs.Ytiaddnmloonhgaa.streamL key (Int.toNat 1) nonce (Go.Proofs.Ytiaddnmloonhgaa.streamL key (Int.toNat 1) nonce text) = text) else Bool.false then
 bif
 match Bool.true with
 | Bool.true => bif bif 0 == 0 then 0 == 0 else Bool.false then Decidable.decide (Go.Proofs.Ytiaddnmloonhgaa.streamL key (Int.toNat 1) nonce (Go.Proofs.Ytiaddnmloonhgaa.streamL key (Int.toNat 1) nonce text) = text) else Bool.false
 | Bool.false => !bif bif 0 == 0 then 0 == 0 else Bool.false then Decidable.decide (Go.Proofs.Ytiaddnmloonhgaa.streamL key (Int.toNat 1) nonce (Go.Proofs.Ytiaddnmloonhgaa.streamL key (Int.toNat 1) nonce text) = text) else Bool.false then
 bif
 match Bool.true with
 | Bool.true => bif bif 0 == 0 then 0 == 0 else Bool.false then Decidable.decide (Go.Proofs.Ytiaddnmloonhgaa.streamL key (Int.toNat 1) nonce (Go.Proofs.Ytiaddnmloonhgaa.streamL key (Int.toNat 1) nonce text) = text) else Bool.false
 | Bool.false => !bif bif 0 == 0 then 0 == 0 else Bool.false then Decidable.decide (Go.Proofs.Ytiaddnmloonhgaa.streamL key (Int.toNat 1) nonce (Go.Proofs.Ytiaddnmloonhgaa.streamL key (Int.toNat 1) nonce text) = text) else Bool.false then
 bif Go.Eng.hiOk (Option.some (Go.Eng.nI (Go.Eng.rowLen 1 text))) (Go.Eng.rowLen 1 (Go.Proofs.Ytiaddnmloonhgaa.sealL key nonce op text)) then
 bif
 match Bool.true with
 | Bool.true => bif bif 0 == 0 then 0 == 0 else Bool.false then Decidable.decide (Go.Proofs.Ytiaddnmloonhgaa.streamL key (Int.toNat 1) nonce (Go.Proofs.Ytiaddnmloonhgaa.streamL key (Int.toNat 1) nonce text) = text) else Bool.false
 | Bool.false => !bif bif 0 == 0 then 0 == 0 else Bool.false then Decidable.decide (Go.Proofs.Ytiaddnmloonhgaa.streamL key (Int.toNat 1) nonce (Go.Proofs.Ytiaddnmloonhgaa.streamL key (Int.toNat 1) nonce text) = text) else Bool.false then
 Option.none
 else
 let v160 : Bool := bif 0 == 0 then 0 == 0 else Bool.false;
 let v161 : Bool := bif v160 then Decidable.decide (Go.Proofs.Ytiaddnmloonhgaa.streamL key (Int.toNat 1) nonce (Go.Proofs.Ytiaddnmloonhgaa.streamL key (Int.toNat 1) nonce text) = text) else Bool.false;
 bif v161 then Option.none else k [Go.Eng.DV.v (Go.Eng.SV.one (Go.Eng.At.bool Bool.false))]
 else Option.none
 else
 bif
 match Bool.true with
 | Bool.true => bif bif 0 == 0 then 0 == 0 else Bool.false then Decidable.decide (Go.Proofs.Ytiaddnmloonhgaa.streamL key (Int.toNat 1) nonce (Go.Proofs.Ytiaddnmloonhgaa.streamL key (Int.toNat 1) nonce text) = text) else Bool.false
 | Bool.false => !bif bif 0 == 0 then 0 == 0 else Bool.false then Decidable.decide (Go.Proofs.Ytiaddnmloonhgaa.streamL key (Int.toNat 1) nonce (Go.Proofs.Ytiaddnmloonhgaa.streamL key (Int.toNat 1) nonce text) = text) else Bool.false then
 Option.none
 else
 let v162 : Bool := bif 0 == 0 then 0 == 0 else Bool.false;
 let v163 : Bool := bif v162 then Decidable.decide (Go.Proofs.Ytiaddnmloonhgaa.streamL key (Int.toNat 1) nonce (Go.Proofs.Ytiaddnmloonhgaa.streamL key (Int.toNat 1) nonce text) = text) else Bool.false;
 bif v163 then Option.none else k [Go.Eng.DV.v (Go.Eng.SV.one (Go.Eng.At.bool Bool.false))]
 else
 bif
 match Bool.true with
 | Bool.true => bif bif 0 == 0 then 0 == 0 else Bool.false then Decidable.decide (Go.Proofs.Ytiaddnmloonhgaa.streamL key (Int.toNat 1) nonce (Go.Proofs.Ytiaddnmloonhgaa.streamL key (Int.toNat 1) nonce text) = text) else Bool.false
 | Bool.false => !bif bif 0 == 0 then 0 == 0 else Bool.false then Decidable.decide (Go.Proofs.Ytiaddnmloonhgaa.streamL key (Int.toNat 1) nonce (Go.Proofs.Ytiaddnmloonhgaa.streamL key (Int.toNat 1) nonce text) = text) else Bool.false then
 Option.none
 else
 bif
 match Bool.true with
 | Bool.true => bif bif 0 == 0 then 0 == 0 else Bool.false then Decidable.decide (Go.Proofs.Ytiaddnmloonhgaa.streamL key (Int.toNat 1) nonce (Go.Proofs.Ytiaddnmloonhgaa.streamL key (Int.toNat 1) nonce text) = text) else Bool.false
 | Bool.false => !bif bif 0 == 0 then 0 == 0 else Bool.false then Decidable.decide (Go.Proofs.Ytiaddnmloonhgaa.streamL key (Int.toNat 1) nonce (Go.Proofs.Ytiaddnmloonhgaa.streamL key (Int.toNat 1) nonce text) = text) else Bool.false then
 Option.none
 else
 let v164 : Bool := bif 0 == 0 then 0 == 0 else Bool.false;
 let v165 : Bool := bif v164 then Decidable.decide (Go.Proofs.Ytiaddnmloonhgaa.streamL key (Int.toNat 1) nonce (Go.Proofs.Ytiaddnmloonhgaa.streamL key (Int.toNat 1) nonce text) = text) else Bool.false;
 bif v165 then Option.none else k [Go.Eng.DV.v (Go.Eng.SV.one (Go.Eng.At.bool Bool.false))]
 else
 bif
 match Bool.true with
 | Bool.true => bif bif 0 == 0 then 0 == 0 else Bool.false then Decidable.decide (Go.Proofs.Ytiaddnmloonhgaa.streamL key (Int.toNat 1) nonce (Go.Proofs.Ytiaddnmloonhgaa.streamL key (Int.toNat 1) nonce text) = text) else Bool.false
 | Bool.false => !bif bif 0 == 0 then 0 == 0 else Bool.false then Decidable.decide (Go.Proofs.Ytiaddnmloonhgaa.streamL key (Int.toNat 1) nonce (Go.Proofs.Ytiaddnmloonhgaa.streamL key (Int.toNat 1) nonce text) = text) else Bool.false then
 Option.none
 else
 bif
 match Bool.true with
 | Bool.true => bif bif 0 == 0 then 0 == 0 else Bool.false then Decidable.decide (Go.Proofs.Ytiaddnmloonhgaa.streamL key (Int.toNat 1) nonce (Go.Proofs.Ytiaddnmloonhgaa.streamL key (Int.toNat 1) nonce text) = text) else Bool.false
 | Bool.false => !bif bif 0 == 0 then 0 == 0 else Bool.false then Decidable.decide (Go.Proofs.Ytiaddnmloonhgaa.streamL key (Int.toNat 1) nonce (Go.Proofs.Ytiaddnmloonhgaa.streamL key (Int.toNat 1) nonce text) = text) else Bool.false then
 Option.none
 else
 bif
 match Bool.true with
 | Bool.true => bif bif 0 == 0 then 0 == 0 else Bool.false then Decidable.decide (Go.Proofs.Ytiaddnmloonhgaa.streamL key (Int.toNat 1) nonce (Go.Proofs.Ytiaddnmloonhgaa.streamL key (Int.toNat 1) nonce text) = text) else Bool.false
 | Bool.false => !bif bif 0 == 0 then 0 == 0 else Bool.false then Decidable.decide (Go.Proofs.Ytiaddnmloonhgaa.streamL key (Int.toNat 1) nonce (Go.Proofs.Ytiaddnmloonhgaa.streamL key (Int.toNat 1) nonce text) = text) else Bool.false then
 Option.none
 else
 let v166 : Bool := bif 0 == 0 then 0 == 0 else Bool.false;
 let v167 : Bool := bif v166 then Decidable.decide (Go.Proofs.Ytiaddnmloonhgaa.streamL key (Int.toNat 1) nonce (Go.Proofs.Ytiaddnmloonhgaa.streamL key (Int.toNat 1) nonce text) = text) else Bool.false;
 bif v167 then Option.none else k [Go.Eng.DV.v (Go.Eng.SV.one (Go.Eng.At.bool Bool.false))]
 else
 bif
 match Bool.true with
 | Bool.true => bif bif 0 == 0 then 0 == 0 else Bool.false then Decidable.decide (Go.Proofs.Ytiaddnmloonhgaa.streamL key (Int.toNat 1) nonce (Go.Proofs.Ytiaddnmloonhgaa.streamL key (Int.toNat 1) nonce text) = text) else Bool.false
 | Bool.false => !bif bif 0 == 0 then 0 == 0 else Bool.false then Decidable.decide (Go.Proofs.Ytiaddnmloonhgaa.streamL key (Int.toNat 1) nonce (Go.Proofs.Ytiaddnmloonhgaa.streamL key (Int.toNat 1) nonce text) = text) else Bool.false then
 bif
 match Bool.true with
 | Bool.true => bif bif 0 == 0 then 0 == 0 else Bool.false then Decidable.decide (Go.Proofs.Ytiaddnmloonhgaa.streamL key (Int.toNat 1) nonce (Go.Proofs.Ytiaddnmloonhgaa.streamL key (Int.toNat 1) nonce text) = text) else Bool.false
 | Bool.false => !bif bif 0 == 0 then 0 == 0 else Bool.false then Decidable.decide (Go.Proofs.Ytiaddnmloonhgaa.streamL key (Int.toNat 1) nonce (Go.Proofs.Ytiaddnmloonhgaa.streamL key (Int.toNat 1) nonce text) = text) else Bool.false then
 bif
 match Bool.true with
 | Bool.true => bif bif 0 == 0 then 0 == 0 else Bool.false then Decidable.decide (Go.Proofs.Ytiaddnmloonhgaa.streamL key (Int.toNat 1) nonce (Go.Proofs.Ytiaddnmloonhgaa.streamL key (Int.toNat 1) nonce text) = text) else Bool.false
 | Bool.false => !bif bif 0 == 0 then 0 == 0 else Bool.false then Decidable.decide (Go.Proofs.Ytiaddnmloonhgaa.streamL key (Int.toNat 1) nonce (Go.Proofs.Ytiaddnmloonhgaa.streamL key (Int.toNat 1) nonce text) = text) else Bool.false then
 Option.none
 else
 bif
 match Bool.true with
 | Bool.true => bif bif 0 == 0 then 0 == 0 else Bool.false then Decidable.decide (Go.Proofs.Ytiaddnmloonhgaa.streamL key (Int.toNat 1) nonce (Go.Proofs.Ytiaddnmloonhgaa.streamL key (Int.toNat 1) nonce text) = text) else Bool.false
 | Bool.false => !bif bif 0 == 0 then 0 == 0 else Bool.false then Decidable.decide (Go.Proofs.Ytiaddnmloonhgaa.streamL key (Int.toNat 1) nonce (Go.Proofs.Ytiaddnmloonhgaa.streamL key (Int.toNat 1) nonce text) = text) else Bool.false then
 Option.none
 else
 let v168 : Bool := bif 0 == 0 then 0 == 0 else Bool.false;
 let v169 : Bool := bif v168 then Decidable.decide (Go.Proofs.Ytiaddnmloonhgaa.streamL key (Int.toNat 1) nonce (Go.Proofs.Ytiaddnmloonhgaa.streamL key (Int.toNat 1) nonce text) = text) else Bool.false;
 bif v169 then Option.none else k [Go.Eng.DV.v (Go.Eng.SV.one (Go.Eng.At.bool Bool.false))]
 else
 bif
 match Bool.true with
 | Bool.true => bif bif 0 == 0 then 0 == 0 else Bool.false then Decidable.decide (Go.Proofs.Ytiaddnmloonhgaa.streamL key (Int.toNat 1) nonce (Go.Proofs.Ytiaddnmloonhgaa.streamL key (Int.toNat 1) nonce text) = text) else Bool.false
 | Bool.false => !bif bif 0 == 0 then 0 == 0 else Bool.false then Decidable.decide (Go.Proofs.Ytiaddnmloonhgaa.streamL key (Int.toNat 1) nonce (Go.Proofs.Ytiaddnmloonhgaa.streamL key (Int.toNat 1) nonce text) = text) else Bool.false then
 Option.none
 else
 bif
 match Bool.true with
 | Bool.true => bif bif 0 == 0 then 0 == 0 else Bool.false then Decidable.decide (Go.Proofs.Ytiaddnmloonhgaa.streamL key (Int.toNat 1) nonce (Go.Proofs.Ytiaddnmloonhgaa.streamL key (Int.toNat 1) nonce text) = text) else Bool.false
 | Bool.false => !bif bif 0 == 0 then 0 == 0 else Bool.false then Decidable.decide (Go.Proofs.Ytiaddnmloonhgaa.streamL key (Int.toNat 1) nonce (Go.Proofs.Ytiaddnmloonhgaa.streamL key (Int.toNat 1) nonce text) = text) else Bool.false then
 Option.none
 else
 let v170 : Bool := bif 0 == 0 then 0 == 0 else Bool.false;
 let v171 : Bool := bif v170 then Decidable.decide (Go.Proofs.Ytiaddnmloonhgaa.streamL key (Int.toNat 1) nonce (Go.Proofs.Ytiaddnmloonhgaa.streamL key (Int.toNat 1) nonce text) = text) else Bool.false;
 bif v171 then Option.none else k [Go.Eng.DV.v (Go.Eng.SV.one (Go.Eng.At.bool Bool.false))]
 else
 bif
 match Bool.true with
 | Bool.true => bif bif 0 == 0 then 0 == 0 else Bool.false then Decidable.decide (Go.Proofs.Ytiaddnmloonhgaa.streamL key (Int.toNat 1) nonce (Go.Proofs.Ytiaddnmloonhgaa.streamL key (Int.toNat 1) nonce text) = text) else Bool.false
 | Bool.false => !bif bif 0 == 0 then 0 == 0 else Bool.false then Decidable.decide (Go.Proofs.Ytiaddnmloonhgaa.streamL key (Int.toNat 1) nonce (Go.Proofs.Ytiaddnmloonhgaa.streamL key (Int.toNat 1) nonce text) = text) else Bool.false then
 Option.none
 else
 bif
 match Bool.true with
 | Bool.true => bif bif 0 == 0 then 0 == 0 else Bool.false then Decidable.decide (Go.Proofs.Ytiaddnmloonhgaa.streamL key (Int.toNat 1) nonce (Go.Proofs.Ytiaddnmloonhgaa.streamL key (Int.toNat 1) nonce text) = text) else Bool.false
 | Bool.false => !bif bif 0 == 0 then 0 == 0 else Bool.false then Decidable.decide (Go.Proofs.Ytiaddnmloonhgaa.streamL key (Int.toNat 1) nonce (Go.Proofs.Ytiaddnmloonhgaa.streamL key (Int.toNat 1) nonce text) = text) else Bool.false then
 Option.none
 else
 bif
 match Bool.true with
 | Bool.true => bif bif 0 == 0 then 0 == 0 else Bool.false then Decidable.decide (Go.Proofs.Ytiaddnmloonhgaa.streamL key (Int.toNat 1) nonce (Go.Proofs.Ytiaddnmloonhgaa.streamL key (Int.toNat 1) nonce text) = text) else Bool.false
 | Bool.false => !bif bif 0 == 0 then 0 == 0 else Bool.false then Decidable.decide (Go.Proofs.Ytiaddnmloonhgaa.streamL key (Int.toNat 1) nonce (Go.Proofs.Ytiaddnmloonhgaa.streamL key (Int.toNat 1) nonce text) = text) else Bool.false then
 Option.none
 else
 let v172 : Bool := bif 0 == 0 then 0 == 0 else Bool.false;
 let v173 : Bool := bif v172 then Decidable.decide (Go.Proofs.Ytiaddnmloonhgaa.streamL key (Int.toNat 1) nonce (Go.Proofs.Ytiaddnmloonhgaa.streamL key (Int.toNat 1) nonce text) = text) else Bool.false;
 bif v173 then Option.none else k [Go.Eng.DV.v (Go.Eng.SV.one (Go.Eng.At.bool Bool.false))]
 else Option.none
 else Option.none
 else Option.none
 else
 let v174 : Bool := bif Go.Eng.nI (Go.Eng.rowLen 1 (Go.Proofs.Ytiaddnmloonhgaa.openL key nonce op other).fst) != 0 then Bool.true else Bool.false;
 bif v174 then k [Go.Eng.DV.v (Go.Eng.SV.one (Go.Eng.At.bool Bool.false))] else Option.none
 else
 bif
 match Bool.false with
 | Bool.true => bif Go.Eng.nI (Go.Eng.rowLen 1 (Go.Proofs.Ytiaddnmloonhgaa.openL key nonce op other).fst) != 0 then Bool.true else Bool.false
 | Bool.false => !bif Go.Eng.nI (Go.Eng.rowLen 1 (Go.Proofs.Ytiaddnmloonhgaa.openL key nonce op other).fst) != 0 then Bool.true else Bool.false then
 Option.none
 else
 let v175 : Bool := bif Go.Eng.nI (Go.Eng.rowLen 1 (Go.Proofs.Ytiaddnmloonhgaa.openL key nonce op other).fst) != 0 then Bool.true else Bool.false;
 bif v175 then k [Go.Eng.DV.v (Go.Eng.SV.one (Go.Eng.At.bool Bool.false))] else Option.none
 else
 bif
 match Bool.false with
 | Bool.true => bif Go.Eng.nI (Go.Eng.rowLen 1 (Go.Proofs.Ytiaddnmloonhgaa.openL key nonce op other).fst) != 0 then Bool.true else Bool.false
 | Bool.false => !bif Go.Eng.nI (Go.Eng.rowLen 1 (Go.Proofs.Ytiaddnmloonhgaa.openL key nonce op other).fst) != 0 then Bool.true else Bool.false then
 Option.none
 else
 bif
 match Bool.false with
 | Bool.true => bif Go.Eng.nI (Go.Eng.rowLen 1 (Go.Proofs.Ytiaddnmloonhgaa.openL key nonce op other).fst) != 0 then Bool.true else Bool.false
 | Bool.false => !bif Go.Eng.nI (Go.Eng.rowLen 1 (Go.Proofs.Ytiaddnmloonhgaa.openL key nonce op other).fst) != 0 then Bool.true else Bool.false then
 Option.none
 else
 let v176 : Bool := bif Go.Eng.nI (Go.Eng.rowLen 1 (Go.Proofs.Ytiaddnmloonhgaa.openL key nonce op other).fst) != 0 then Bool.true else Bool.false;
 bif v176 then k [Go.Eng.DV.v (Go.Eng.SV.one (Go.Eng.At.bool Bool.false))] else Option.none
 else
 bif
 match Bool.false with
 | Bool.true => bif Go.Eng.nI (Go.Eng.rowLen 1 (Go.Proofs.Ytiaddnmloonhgaa.openL key nonce op other).fst) != 0 then Bool.true else Bool.false
 | Bool.false => !bif Go.Eng.nI (Go.Eng.rowLen 1 (Go.Proofs.Ytiaddnmloonhgaa.openL key nonce op other).fst) != 0 then Bool.true else Bool.false then
 Option.none
 else
 bif
 match Bool.false with
 | Bool.true => bif Go.Eng.nI (Go.Eng.rowLen 1 (Go.Proofs.Ytiaddnmloonhgaa.openL key nonce op other).fst) != 0 then Bool.true else Bool.false
 | Bool.false => !bif Go.Eng.nI (Go.Eng.rowLen 1 (Go.Proofs.Ytiaddnmloonhgaa.openL key nonce op other).fst) != 0 then Bool.true else Bool.false then
 Option.none
 else
 bif
 match Bool.false with
 | Bool.true => bif Go.Eng.nI (Go.Eng.rowLen 1 (Go.Proofs.Ytiaddnmloonhgaa.openL key nonce op other).fst) != 0 then Bool.true else Bool.false
 | Bool.false => !bif Go.Eng.nI (Go.Eng.rowLen 1 (Go.Proofs.Ytiaddnmloonhgaa.openL key nonce op other).fst) != 0 then Bool.true else Bool.false then
 Option.none
 else
 let v177 : Bool := bif Go.Eng.nI (Go.Eng.rowLen 1 (Go.Proofs.Ytiaddnmloonhgaa.openL key nonce op other).fst) != 0 then Bool.true else Bool.false;
 bif v177 then k [Go.Eng.DV.v (Go.Eng.SV.one (Go.Eng.At.bool Bool.false))] else Option.none
 else
 bif
 match Bool.false with
 | Bool.true => bif Go.Eng.nI (Go.Eng.rowLen 1 (Go.Proofs.Ytiaddnmloonhgaa.openL key nonce op other).fst) != 0 then Bool.true else Bool.false
 | Bool.false => !bif Go.Eng.nI (Go.Eng.rowLen 1 (Go.Proofs.Ytiaddnmloonhgaa.openL key nonce op other).fst) != 0 then Bool.true else Bool.false then
 bif
 match Bool.false with
 | Bool.true => bif Go.Eng.nI (Go.Eng.rowLen 1 (Go.Proofs.Ytiaddnmloonhgaa.openL key nonce op other).fst) != 0 then Bool.true else Bool.false
 | Bool.false => !bif Go.Eng.nI (Go.Eng.rowLen 1 (Go.Proofs.Ytiaddnmloonhgaa.openL key nonce op other).fst) != 0 then Bool.true else Bool.false then
 bif
 match Bool.false with
 | Bool.true => bif Go.Eng.nI (Go.Eng.rowLen 1 (Go.Proofs.Ytiaddnmloonhgaa.openL key nonce op other).fst) != 0 then Bool.true else Bool.false
 | Bool.false => !bif Go.Eng.nI (Go.Eng.rowLen 1 (Go.Proofs.Ytiaddnmloonhgaa.openL key nonce op other).fst) != 0 then Bool.true else Bool.false then
 bif
 match Bool.false with
 | Bool.true => bif Go.Eng.nI (Go.Eng.rowLen 1 (Go.Proofs.Ytiaddnmloonhgaa.openL key nonce op other).fst) != 0 then Bool.true else Bool.false
 | Bool.false => !bif Go.Eng.nI (Go.Eng.rowLen 1 (Go.Proofs.Ytiaddnmloonhgaa.openL key nonce op other).fst) != 0 then Bool.true else Bool.false then
 Option.none
 else
 let v178 : Bool := bif Go.Eng.nI (Go.Eng.rowLen 1 (Go.Proofs.Ytiaddnmloonhgaa.openL key nonce op other).fst) != 0 then Bool.true else Bool.false;
 bif v178 then k [Go.Eng.DV.v (Go.Eng.SV.one (Go.Eng.At.bool Bool.false))] else Option.none
 else
 bif
 match Bool.false with
 | Bool.true => bif Go.Eng.nI (Go.Eng.rowLen 1 (Go.Proofs.Ytiaddnmloonhgaa.openL key nonce op other).fst) != 0 then Bool.true else Bool.false
 | Bool.false => !bif Go.Eng.nI (Go.Eng.rowLen 1 (Go.Proofs.Ytiaddnmloonhgaa.openL key nonce op other).fst) != 0 then Bool.true else Bool.false then
 Option.none
 else
 let v179 : Bool := bif Go.Eng.nI (Go.Eng.rowLen 1 (Go.Proofs.Ytiaddnmloonhgaa.openL key nonce op other).fst) != 0 then Bool.true else Bool.false;
 bif v179 then k [Go.Eng.DV.v (Go.Eng.SV.one (Go.Eng.At.bool Bool.false))] else Option.none
 else
 bif
 match Bool.false with
 | Bool.true => bif Go.Eng.nI (Go.Eng.rowLen 1 (Go.Proofs.Ytiaddnmloonhgaa.openL key nonce op other).fst) != 0 then Bool.true else Bool.false
 | Bool.false => !bif Go.Eng.nI (Go.Eng.rowLen 1 (Go.Proofs.Ytiaddnmloonhgaa.openL key nonce op other).fst) != 0 then Bool.true else Bool.false then
 Option.none
 else
 bif
 match Bool.false with
 | Bool.true => bif Go.Eng.nI (Go.Eng.rowLen 1 (Go.Proofs.Ytiaddnmloonhgaa.openL key nonce op other).fst) != 0 then Bool.true else Bool.false
 | Bool.false => !bif Go.Eng.nI (Go.Eng.rowLen 1 (Go.Proofs.Ytiaddnmloonhgaa.openL key nonce op other).fst) != 0 then Bool.true else Bool.false then
 Option.none
 else
 let v180 : Bool := bif Go.Eng.nI (Go.Eng.rowLen 1 (Go.Proofs.Ytiaddnmloonhgaa.openL key nonce op other).fst) != 0 then Bool.true else Bool.false;
 bif v180 then k [Go.Eng.DV.v (Go.Eng.SV.one (Go.Eng.At.bool Bool.false))] else Option.none
 else
 bif
 match Bool.false with
 | Bool.true => bif Go.Eng.nI (Go.Eng.rowLen 1 (Go.Proofs.Ytiaddnmloonhgaa.openL key nonce op other).fst) != 0 then Bool.true else Bool.false
 | Bool.false => !bif Go.Eng.nI (Go.Eng.rowLen 1 (Go.Proofs.Ytiaddnmloonhgaa.openL key nonce op other).fst) != 0 then Bool.true else Bool.false then
 Option.none
 else
 bif
 match Bool.false with
 | Bool.true => bif Go.Eng.nI (Go.Eng.rowLen 1 (Go.Proofs.Ytiaddnmloonhgaa.openL key nonce op other).fst) != 0 then Bool.true else Bool.false
 | Bool.false => !bif Go.Eng.nI (Go.Eng.rowLen 1 (Go.Proofs.Ytiaddnmloonhgaa.openL key nonce op other).fst) != 0 then Bool.true else Bool.false then
 Option.none
 else
 bif
 match Bool.false with
 | Bool.true => bif Go.Eng.nI (Go.Eng.rowLen 1 (Go.Proofs.Ytiaddnmloonhgaa.openL key nonce op other).fst) != 0 then Bool.true else Bool.false
 | Bool.false => !bif Go.Eng.nI (Go.Eng.rowLen 1 (Go.Proofs.Ytiaddnmloonhgaa.openL key nonce op other).fst) != 0 then Bool.true else Bool.false then
 Option.none
 else
 let v181 : Bool := bif Go.Eng.nI (Go.Eng.rowLen 1 (Go.Proofs.Ytiaddnmloonhgaa.openL key nonce op other).fst) != 0 then Bool.true else Bool.false;
 bif v181 then k [Go.Eng.DV.v (Go.Eng.SV.one (Go.Eng.At.bool Bool.false))] else Option.none
 else
 bif
 match Bool.false with
 | Bool.true => bif Go.Eng.nI (Go.Eng.rowLen 1 (Go.Proofs.Ytiaddnmloonhgaa.openL key nonce op other).fst) != 0 then Bool.true else Bool.false
 | Bool.false => !bif Go.Eng.nI (Go.Eng.rowLen 1 (Go.Proofs.Ytiaddnmloonhgaa.openL key nonce op other).fst) != 0 then Bool.true else Bool.false then
 Option.none
 else
 bif
 match Bool.false with
 | Bool.true => bif Go.Eng.nI (Go.Eng.rowLen 1 (Go.Proofs.Ytiaddnmloonhgaa.openL key nonce op other).fst) != 0 then Bool.true else Bool.false
 | Bool.false => !bif Go.Eng.nI (Go.Eng.rowLen 1 (Go.Proofs.Ytiaddnmloonhgaa.openL key nonce op other).fst) != 0 then Bool.true else Bool.false then
 bif
 match Bool.false with
 | Bool.true => bif Go.Eng.nI (Go.Eng.rowLen 1 (Go.Proofs.Ytiaddnmloonhgaa.openL key nonce op other).fst) != 0 then Bool.true else Bool.false
 | Bool.false => !bif Go.Eng.nI (Go.Eng.rowLen 1 (Go.Proofs.Ytiaddnmloonhgaa.openL key nonce op other).fst) != 0 then Bool.true else Bool.false then
 bif
 match Bool.false with
 | Bool.true => bif Go.Eng.nI (Go.Eng.rowLen 1 (Go.Proofs.Ytiaddnmloonhgaa.openL key nonce op other).fst) != 0 then Bool.true else Bool.false
 | Bool.false => !bif Go.Eng.nI (Go.Eng.rowLen 1 (Go.Proofs.Ytiaddnmloonhgaa.openL key nonce op other).fst) != 0 then Bool.true else Bool.false then
 bif
 match Bool.false with
 | Bool.true => bif Go.Eng.nI (Go.Eng.rowLen 1 (Go.Proofs.Ytiaddnmloonhgaa.openL key nonce op other).fst) != 0 then Bool.true else Bool.false
 | Bool.false => !bif Go.Eng.nI (Go.Eng.rowLen 1 (Go.Proofs.Ytiaddnmloonhgaa.openL key nonce op other).fst) != 0 then Bool.true else Bool.false then
 Option.none
 else
 let v182 : Bool := bif Go.Eng.nI (Go.Eng.rowLen 1 (Go.Proofs.Ytiaddnmloonhgaa.openL key nonce op other).fst) != 0 then Bool.true else Bool.false;
 bif v182 then k [Go.Eng.DV.v (Go.Eng.SV.one (Go.Eng.At.bool Bool.false))] else Option.none
 else
 bif
 match Bool.false with
 | Bool.true => bif Go.Eng.nI (Go.Eng.rowLen 1 (Go.Proofs.Ytiaddnmloonhgaa.openL key nonce op other).fst) != 0 then Bool.true else Bool.false
 | Bool.false => !bif Go.Eng.nI (Go.Eng.rowLen 1 (Go.Proofs.Ytiaddnmloonhgaa.openL key nonce op other).fst) != 0 then Bool.true else Bool.false then
 Option.none
 else
 let v183 : Bool := bif Go.Eng.nI (Go.Eng.rowLen 1 (Go.Proofs.Ytiaddnmloonhgaa.openL key nonce op other).fst) != 0 then Bool.true else Bool.false;
 bif v183 then k [Go.Eng.DV.v (Go.Eng.SV.one (Go.Eng.At.bool Bool.false))] else Option.none
 else
 bif
 match Bool.false with
 | Bool.true => bif Go.Eng.nI (Go.Eng.rowLen 1 (Go.Proofs.Ytiaddnmloonhgaa.openL key nonce op other).fst) != 0 then Bool.true else Bool.false
 | Bool.false => !bif Go.Eng.nI (Go.Eng.rowLen 1 (Go.Proofs.Ytiaddnmloonhgaa.openL key nonce op other).fst) != 0 then Bool.true else Bool.false then
 Option.none
 else
 bif
 match Bool.false with
 | Bool.true => bif Go.Eng.nI (Go.Eng.rowLen 1 (Go.Proofs.Ytiaddnmloonhgaa.openL key nonce op other).fst) != 0 then Bool.true else Bool.false
 | Bool.false => !bif Go.Eng.nI (Go.Eng.rowLen 1 (Go.Proofs.Ytiaddnmloonhgaa.openL key nonce op other).fst) != 0 then Bool.true else Bool.false then
 Option.none
 else
 let v184 : Bool := bif Go.Eng.nI (Go.Eng.rowLen 1 (Go.Proofs.Ytiaddnmloonhgaa.openL key nonce op other).fst) != 0 then Bool.true else Bool.false;
 bif v184 then k [Go.Eng.DV.v (Go.Eng.SV.one (Go.Eng.At.bool Bool.false))] else Option.none
 else
 bif
 match Bool.false with
 | Bool.true => bif Go.Eng.nI (Go.Eng.rowLen 1 (Go.Proofs.Ytiaddnmloonhgaa.openL key nonce op other).fst) != 0 then Bool.true else Bool.false
 | Bool.false => !bif Go.Eng.nI (Go.Eng.rowLen 1 (Go.Proofs.Ytiaddnmloonhgaa.openL key nonce op other).fst) != 0 then Bool.true else Bool.false then
 Option.none
 else
 bif
 match Bool.false with
 | Bool.true => bif Go.Eng.nI (Go.Eng.rowLen 1 (Go.Proofs.Ytiaddnmloonhgaa.openL key nonce op other).fst) != 0 then Bool.true else Bool.false
 | Bool.false => !bif Go.Eng.nI (Go.Eng.rowLen 1 (Go.Proofs.Ytiaddnmloonhgaa.openL key nonce op other).fst) != 0 then Bool.true else Bool.false then
 Option.none
 else
 bif
 match Bool.false with
 | Bool.true => bif Go.Eng.nI (Go.Eng.rowLen 1 (Go.Proofs.Ytiaddnmloonhgaa.openL key nonce op other).fst) != 0 then Bool.true else Bool.false
 | Bool.false => !bif Go.Eng.nI (Go.Eng.rowLen 1 (Go.Proofs.Ytiaddnmloonhgaa.openL key nonce op other).fst) != 0 then Bool.true else Bool.false then
 Option.none
 else
 let v185 : Bool := bif Go.Eng.nI (Go.Eng.rowLen 1 (Go.Proofs.Ytiaddnmloonhgaa.openL key nonce op other).fst) != 0 then Bool.true else Bool.false;
 bif v185 then k [Go.Eng.DV.v (Go.Eng.SV.one (Go.Eng.At.bool Bool.false))] else Option.none
 else bif Go.Eng.nI (Go.Eng.rowLen 1 (Go.Proofs.Ytiaddnmloonhgaa.openL key nonce op other).fst) != 0 then k [Go.Eng.DV.v (Go.Eng.SV.one (Go.Eng.At.bool Bool.false))] else Option.none
 else
 bif
 match Bool.false with
 | Bool.true => Go.Eng.nI (Go.Eng.rowLen 1 (Go.Proofs.Ytiaddnmloonhgaa.openL key nonce op other).fst) != 0
 | Bool.false => !Go.Eng.nI (Go.Eng.rowLen 1 (Go.Proofs.Ytiaddnmloonhgaa.openL key nonce op other).fst) != 0 then
 Option.none
 else bif Go.Eng.nI (Go.Eng.rowLen 1 (Go.Proofs.Ytiaddnmloonhgaa.openL key nonce op other).fst) != 0 then k [Go.Eng.DV.v (Go.Eng.SV.one (Go.Eng.At.bool Bool.false))] else Option.none
 else
 bif
 match Bool.false with
 | Bool.true => Go.Eng.nI (Go.Eng.rowLen 1 (Go.Proofs.Ytiaddnmloonhgaa.openL key nonce op other).fst) != 0
 | Bool.false => !Go.Eng.nI (Go.Eng.rowLen 1 (Go.Proofs.Ytiaddnmloonhgaa.openL key nonce op other).fst) != 0 then
 bif
 match Bool.false with
 | Bool.true => Go.Eng.nI (Go.Eng.rowLen 1 (Go.Proofs.Ytiaddnmloonhgaa.openL key nonce op other).fst) != 0
 | Bool.false => !Go.Eng.nI (Go.Eng.rowLen 1 (Go.Proofs.Ytiaddnmloonhgaa.openL key nonce op other).fst) != 0 then
 Option.none
 else bif Go.Eng.nI (Go.Eng.rowLen 1 (Go.Proofs.Ytiaddnmloonhgaa.openL key nonce op other).fst) != 0 then k [Go.Eng.DV.v (Go.Eng.SV.one (Go.Eng.At.bool Bool.false))] else Option.none
 else
 bif
 match Bool.false with
 | Bool.true => Go.Eng.nI (Go.Eng.rowLen 1 (Go.Proofs.Ytiaddnmloonhgaa.openL key nonce op other).fst) != 0
 | Bool.false => !Go.Eng.nI (Go.Eng.rowLen 1 (Go.Proofs.Ytiaddnmloonhgaa.openL key nonce op other).fst) != 0 then
 Option.none
 else bif Go.Eng.nI (Go.Eng.rowLen 1 (Go.Proofs.Ytiaddnmloonhgaa.openL key nonce op other).fst) != 0 then k [Go.Eng.DV.v (Go.Eng.SV.one (Go.Eng.At.bool Bool.false))] else Option.none
 else
 bif
 match Bool.false with
 | Bool.true => Go.Eng.nI (Go.Eng.rowLen 1 (Go.Proofs.Ytiaddnmloonhgaa.openL key nonce op other).fst) != 0
 | Bool.false => !Go.Eng.nI (Go.Eng.rowLen 1 (Go.Proofs.Ytiaddnmloonhgaa.openL key nonce op other).fst) != 0 then
 Option.none
 else
 bif
 match Bool.false with
 | Bool.true => Go.Eng.nI (Go.Eng.rowLen 1 (Go.Proofs.Ytiaddnmloonhgaa.openL key nonce op other).fst) != 0
 | Bool.false => !Go.Eng.nI (Go.Eng.rowLen 1 (Go.Proofs.Ytiaddnmloonhgaa.openL key nonce op other).fst) != 0 then
 bif
 match Bool.false with
 | Bool.true => Go.Eng.nI (Go.Eng.rowLen 1 (Go.Proofs.Ytiaddnmloonhgaa.openL key nonce op other).fst) != 0
 | Bool.false => !Go.Eng.nI (Go.Eng.rowLen 1 (Go.Proofs.Ytiaddnmloonhgaa.openL key nonce op other).fst) != 0 then
 Option.none
 else bif Go.Eng.nI (Go.Eng.rowLen 1 (Go.Proofs.Ytiaddnmloonhgaa.openL key nonce op other).fst) != 0 then k [Go.Eng.DV.v (Go.Eng.SV.one (Go.Eng.At.bool Bool.false))] else Option.none
 else
 bif
 match Bool.false with
 | Bool.true => Go.Eng.nI (Go.Eng.rowLen 1 (Go.Proofs.Ytiaddnmloonhgaa.openL key nonce op other).fst) != 0
 | Bool.false => !Go.Eng.nI (Go.Eng.rowLen 1 (Go.Proofs.Ytiaddnmloonhgaa.openL key nonce op other).fst) != 0 then
 Option.none
 else bif Go.Eng.nI (Go.Eng.rowLen 1 (Go.Proofs.Ytiaddnmloonhgaa.openL key nonce op other).fst) != 0 then k [Go.Eng.DV.v (Go.Eng.SV.one (Go.Eng.At.bool Bool.false))] else Option.none
 else Option.none
 else
 let v186 : Int := Go.IntKind.i64.wrap (Go.Eng.nI (Go.Eng.rowLen 1 text) + 16);
 let v187 : Bool := bif (Go.Proofs.Ytiaddnmloonhgaa.openL key nonce op (Go.Proofs.Ytiaddnmloonhgaa.sealL key nonce op text)).snd != 0 then Bool.true else Go.Eng.nI (Go.Eng.rowLen 1 (Go.Proofs.Ytiaddnmloonhgaa.sealL key nonce op text)) != v186;
 bif v187 then k [Go.Eng.DV.v (Go.Eng.SV.one (Go.Eng.At.bool Bool.false))] else Option.none
 else Option.none
 else
 bif
 match Bool.false with
 | Bool.true => bif (Go.Proofs.Ytiaddnmloonhgaa.openL key nonce op (Go.Proofs.Ytiaddnmloonhgaa.sealL key nonce op text)).snd != 0 then Bool.true else Go.Eng.nI (Go.Eng.rowLen 1 (Go.Proofs.Ytiaddnmloonhgaa.sealL key nonce op text)) != Go.IntKind.i64.wrap (Go.Eng.nI (Go.Eng.rowLen 1 text) + 16)
 | Bool.false => !bif (Go.Proofs.Ytiaddnmloonhgaa.openL key nonce op (Go.Proofs.Ytiaddnmloonhgaa.sealL key nonce op text)).snd != 0 then Bool.true else Go.Eng.nI (Go.Eng.rowLen 1 (Go.Proofs.Ytiaddnmloonhgaa.sealL key nonce op text)) != Go.IntKind.i64.wrap (Go.Eng.nI (Go.Eng.rowLen 1 text) + 16) then
 Option.none
 else
 let v188 : Int := Go.IntKind.i64.wrap (Go.Eng.nI (Go.Eng.rowLen 1 text) + 16);
 let v189 : Bool := bif (Go.Proofs.Ytiaddnmloonhgaa.openL key nonce op (Go.Proofs.Ytiaddnmloonhgaa.sealL key nonce op text)).snd != 0 then Bool.true else Go.Eng.nI (Go.Eng.rowLen 1 (Go.Proofs.Ytiaddnmloonhgaa.sealL key nonce op text)) != v188;
 bif v189 then k [Go.Eng.DV.v (Go.Eng.SV.one (Go.Eng.At.bool Bool.false))] else Option.none
 else
 bif
 match Bool.false with
 | Bool.true => bif (Go.Proofs.Ytiaddnmloonhgaa.openL key nonce op (Go.Proofs.Ytiaddnmloonhgaa.sealL key nonce op text)).snd != 0 then Bool.true else Go.Eng.nI (Go.Eng.rowLen 1 (Go.Proofs.Ytiaddnmloonhgaa.sealL key nonce op text)) != Go.IntKind.i64.wrap (Go.Eng.nI (Go.Eng.rowLen 1 text) + 16)
 | Bool.false => !bif (Go.Proofs.Ytiaddnmloonhgaa.openL key nonce op (Go.Proofs.Ytiaddnmloonhgaa.sealL key nonce op text)).snd != 0 then Bool.true else Go.Eng.nI (Go.Eng.rowLen 1 (Go.Proofs.Ytiaddnmloonhgaa.sealL key nonce op text)) != Go.IntKind.i64.wrap (Go.Eng.nI (Go.Eng.rowLen 1 text) + 16) then
 Option.none
 else
 bif
 match Bool.false with
 | Bool.true => bif (Go.Proofs.Ytiaddnmloonhgaa.openL key nonce op (Go.Proofs.Ytiaddnmloonhgaa.sealL key nonce op text)).snd != 0 then Bool.true else Go.Eng.nI (Go.Eng.rowLen 1 (Go.Proofs.Ytiaddnmloonhgaa.sealL key nonce op text)) != Go.IntKind.i64.wrap (Go.Eng.nI (Go.Eng.rowLen 1 text) + 16)
 | Bool.false => !bif (Go.Proofs.Ytiaddnmloonhgaa.openL key nonce op (Go.Proofs.Ytiaddnmloonhgaa.sealL key nonce op text)).snd != 0 then Bool.true else Go.Eng.nI (Go.Eng.rowLen 1 (Go.Proofs.Ytiaddnmloonhgaa.sealL key nonce op text)) != Go.IntKind.i64.wrap (Go.Eng.nI (Go.Eng.rowLen 1 text) + 16) then
 Option.none
 else
 let v190 : Int := Go.IntKind.i64.wrap (Go.Eng.nI (Go.Eng.rowLen 1 text) + 16);
 let v191 : Bool := bif (Go.Proofs.Ytiaddnmloonhgaa.openL key nonce op (Go.Proofs.Ytiaddnmloonhgaa.sealL key nonce op text)).snd != 0 then Bool.true else Go.Eng.nI (Go.Eng.rowLen 1 (Go.Proofs.Ytiaddnmloonhgaa.sealL key nonce op text)) != v190;
 bif v191 then k [Go.Eng.DV.v (Go.Eng.SV.one (Go.Eng.At.bool Bool.false))] else Option.none
 else
 bif
 match Bool.false with
 | Bool.true => bif (Go.Proofs.Ytiaddnmloonhgaa.openL key nonce op (Go.Proofs.Ytiaddnmloonhgaa.sealL key nonce op text)).snd != 0 then Bool.true else Go.Eng.nI (Go.Eng.rowLen 1 (Go.Proofs.Ytiaddnmloonhgaa.sealL key nonce op text)) != Go.IntKind.i64.wrap (Go.Eng.nI (Go.Eng.rowLen 1 text) + 16)
 | Bool.false => !bif (Go.Proofs.Ytiaddnmloonhgaa.openL key nonce op (Go.Proofs.Ytiaddnmloonhgaa.sealL key nonce op text)).snd != 0 then Bool.true else Go.Eng.nI (Go.Eng.rowLen 1 (Go.Proofs.Ytiaddnmloonhgaa.sealL key nonce op text)) != Go.IntKind.i64.wrap (Go.Eng.nI (Go.Eng.rowLen 1 text) + 16) then
 bif
 match Bool.false with
 | Bool.true => bif (Go.Proofs.Ytiaddnmloonhgaa.openL key nonce op (Go.Proofs.Ytiaddnmloonhgaa.sealL key nonce op text)).snd != 0 then Bool.true else Go.Eng.nI (Go.Eng.rowLen 1 (Go.Proofs.Ytiaddnmloonhgaa.sealL key nonce op text)) != Go.IntKind.i64.wrap (Go.Eng.nI (Go.Eng.rowLen 1 text) + 16)
 | Bool.false => !bif (Go.Proofs.Ytiaddnmloonhgaa.openL key nonce op (Go.Proofs.Ytiaddnmloonhgaa.sealL key nonce op text)).snd != 0 then Bool.true else Go.Eng.nI (Go.Eng.rowLen 1 (Go.Proofs.Ytiaddnmloonhgaa.sealL key nonce op text)) != Go.IntKind.i64.wrap (Go.Eng.nI (Go.Eng.rowLen 1 text) + 16) then
 Option.none
 else
 bif
 match Bool.false with
 | Bool.true => bif (Go.Proofs.Ytiaddnmloonhgaa.openL key nonce op (Go.Proofs.Ytiaddnmloonhgaa.sealL key nonce op text)).snd != 0 then Bool.true else Go.Eng.nI (Go.Eng.rowLen 1 (Go.Proofs.Ytiaddnmloonhgaa.sealL key nonce op text)) != Go.IntKind.i64.wrap (Go.Eng.nI (Go.Eng.rowLen 1 text) + 16)
 | Bool.false => !bif (Go.Proofs.Ytiaddnmloonhgaa.openL key nonce op (Go.Proofs.Ytiaddnmloonhgaa.sealL key nonce op text)).snd != 0 then Bool.true else Go.Eng.nI (Go.Eng.rowLen 1 (Go.Proofs.Ytiaddnmloonhgaa.sealL key nonce op text)) != Go.IntKind.i64.wrap (Go.Eng.nI (Go.Eng.rowLen 1 text) + 16) then
 Option.none
 else
 let v192 : Int := Go.IntKind.i64.wrap (Go.Eng.nI (Go.Eng.rowLen 1 text) + 16);
 let v193 : Bool := bif (Go.Proofs.Ytiaddnmloonhgaa.openL key nonce op (Go.Proofs.Ytiaddnmloonhgaa.sealL key nonce op text)).snd != 0 then Bool.true else Go.Eng.nI (Go.Eng.rowLen 1 (Go.Proofs.Ytiaddnmloonhgaa.sealL key nonce op text)) != v192;
 bif v193 then k [Go.Eng.DV.v (Go.Eng.SV.one (Go.Eng.At.bool Bool.false))] else Option.none
 else
 bif
 match Bool.false with
 | Bool.true => bif (Go.Proofs.Ytiaddnmloonhgaa.openL key nonce op (Go.Proofs.Ytiaddnmloonhgaa.sealL key nonce op text)).snd != 0 then Bool.true else Go.Eng.nI (Go.Eng.rowLen 1 (Go.Proofs.Ytiaddnmloonhgaa.sealL key nonce op text)) != Go.IntKind.i64.wrap (Go.Eng.nI (Go.Eng.rowLen 1 text) + 16)
 | Bool.false => !bif (Go.Proofs.Ytiaddnmloonhgaa.openL key nonce op (Go.Proofs.Ytiaddnmloonhgaa.sealL key nonce op text)).snd != 0 then Bool.true else Go.Eng.nI (Go.Eng.rowLen 1 (Go.Proofs.Ytiaddnmloonhgaa.sealL key nonce op text)) != Go.IntKind.i64.wrap (Go.Eng.nI (Go.Eng.rowLen 1 text) + 16) then
 Option.none
 else
 bif
 match Bool.false with
 | Bool.true => bif (Go.Proofs.Ytiaddnmloonhgaa.openL key nonce op (Go.Proofs.Ytiaddnmloonhgaa.sealL key nonce op text)).snd != 0 then Bool.true else Go.Eng.nI (Go.Eng.rowLen 1 (Go.Proofs.Ytiaddnmloonhgaa.sealL key nonce op text)) != Go.IntKind.i64.wrap (Go.Eng.nI (Go.Eng.rowLen 1 text) + 16)
 | Bool.false => !bif (Go.Proofs.Ytiaddnmloonhgaa.openL key nonce op (Go.Proofs.Ytiaddnmloonhgaa.sealL key nonce op text)).snd != 0 then Bool.true else Go.Eng.nI (Go.Eng.rowLen 1 (Go.Proofs.Ytiaddnmloonhgaa.sealL key nonce op text)) != Go.IntKind.i64.wrap (Go.Eng.nI (Go.Eng.rowLen 1 text) + 16) then
 Option.none
 else
 let v194 : Int := Go.IntKind.i64.wrap (Go.Eng.nI (Go.Eng.rowLen 1 text) + 16);
 let v195 : Bool := bif (Go.Proofs.Ytiaddnmloonhgaa.openL key nonce op (Go.Proofs.Ytiaddnmloonhgaa.sealL key nonce op text)).snd != 0 then Bool.true else Go.Eng.nI (Go.Eng.rowLen 1 (Go.Proofs.Ytiaddnmloonhgaa.sealL key nonce op text)) != v194;
 bif v195 then k [Go.Eng.DV.v (Go.Eng.SV.one (Go.Eng.At.bool Bool.false))] else Option.none
 else bif (Go.Proofs.Ytiaddnmloonhgaa.openL key nonce op (Go.Proofs.Ytiaddnmloonhgaa.sealL key nonce op text)).snd != 0 then k [Go.Eng.DV.v (Go.Eng.SV.one (Go.Eng.At.bool Bool.false))] else Option.none
 else
 bif
 match Bool.false with
 | Bool.true => (Go.Proofs.Ytiaddnmloonhgaa.openL key nonce op (Go.Proofs.Ytiaddnmloonhgaa.sealL key nonce op text)).snd != 0
 | Bool.false => !(Go.Proofs.Ytiaddnmloonhgaa.openL key nonce op (Go.Proofs.Ytiaddnmloonhgaa.sealL key nonce op text)).snd != 0 then
 Option.none
 else bif (Go.Proofs.Ytiaddnmloonhgaa.openL key nonce op (Go.Proofs.Ytiaddnmloonhgaa.sealL key nonce op text)).snd != 0 then k [Go.Eng.DV.v (Go.Eng.SV.one (Go.Eng.At.bool Bool.false))] else Option.none
 else
 bif
 match Bool.false with
 | Bool.true => (Go.Proofs.Ytiaddnmloonhgaa.openL key nonce op (Go.Proofs.Ytiaddnmloonhgaa.sealL key nonce op text)).snd != 0
 | Bool.false => !(Go.Proofs.Ytiaddnmloonhgaa.openL key nonce op (Go.Proofs.Ytiaddnmloonhgaa.sealL key nonce op text)).snd != 0 then
 Option.none
 else
 bif
 match Bool.false with
 | Bool.true => (Go.Proofs.Ytiaddnmloonhgaa.openL key nonce op (Go.Proofs.Ytiaddnmloonhgaa.sealL key nonce op text)).snd != 0
 | Bool.false => !(Go.Proofs.Ytiaddnmloonhgaa.openL key nonce op (Go.Proofs.Ytiaddnmloonhgaa.sealL key nonce op text)).snd != 0 then
 Option.none
 else bif (Go.Proofs.Ytiaddnmloonhgaa.openL key nonce op (Go.Proofs.Ytiaddnmloonhgaa.sealL key nonce op text)).snd != 0 then k [Go.Eng.DV.v (Go.Eng.SV.one (Go.Eng.At.bool Bool.false))] else Option.none
 else
 bif
 match Bool.false with
 | Bool.true => (Go.Proofs.Ytiaddnmloonhgaa.openL key nonce op (Go.Proofs.Ytiaddnmloonhgaa.sealL key nonce op text)).snd != 0
 | Bool.false => !(Go.Proofs.Ytiaddnmloonhgaa.openL key nonce op (Go.Proofs.Ytiaddnmloonhgaa.sealL key nonce op text)).snd != 0 then
 Option.none
 else
 bif
 match Bool.false with
 | Bool.true => (Go.Proofs.Ytiaddnmloonhgaa.openL key nonce op (Go.Proofs.Ytiaddnmloonhgaa.sealL key nonce op text)).snd != 0
 | Bool.false => !(Go.Proofs.Ytiaddnmloonhgaa.openL key nonce op (Go.Proofs.Ytiaddnmloonhgaa.sealL key nonce op text)).snd != 0 then
 Option.none
 else
 bif
 match Bool.false with
 | Bool.true => (Go.Proofs.Ytiaddnmloonhgaa.openL key nonce op (Go.Proofs.Ytiaddnmloonhgaa.sealL key nonce op text)).snd != 0
 | Bool.false => !(Go.Proofs.Ytiaddnmloonhgaa.openL key nonce op (Go.Proofs.Ytiaddnmloonhgaa.sealL key nonce op text)).snd != 0 then
 Option.none
 else bif (Go.Proofs.Ytiaddnmloonhgaa.openL key nonce op (Go.Proofs.Ytiaddnmloonhgaa.sealL key nonce op text)).snd != 0 then k [Go.Eng.DV.v (Go.Eng.SV.one (Go.Eng.At.bool Bool.false))] else Option.none
 else
 bif
 match Bool.false with
 | Bool.true => (Go.Proofs.Ytiaddnmloonhgaa.openL key nonce op (Go.Proofs.Ytiaddnmloonhgaa.sealL key nonce op text)).snd != 0
 | Bool.false => !(Go.Proofs.Ytiaddnmloonhgaa.openL key nonce op (Go.Proofs.Ytiaddnmloonhgaa.sealL key nonce op text)).snd != 0 then
 bif
 match Bool.false with
 | Bool.true => (Go.Proofs.Ytiaddnmloonhgaa.openL key nonce op (Go.Proofs.Ytiaddnmloonhgaa.sealL key nonce op text)).snd != 0
 | Bool.false => !(Go.Proofs.Ytiaddnmloonhgaa.openL key nonce op (Go.Proofs.Ytiaddnmloonhgaa.sealL key nonce op text)).snd != 0 then
 bif
 match Bool.false with
 | Bool.true => (Go.Proofs.Ytiaddnmloonhgaa.openL key nonce op (Go.Proofs.Ytiaddnmloonhgaa.sealL key nonce op text)).snd != 0
 | Bool.false => !(Go.Proofs.Ytiaddnmloonhgaa.openL key nonce op (Go.Proofs.Ytiaddnmloonhgaa.sealL key nonce op text)).snd != 0 then
 bif
 match Bool.false with
 | Bool.true => (Go.Proofs.Ytiaddnmloonhgaa.openL key nonce op (Go.Proofs.Ytiaddnmloonhgaa.sealL key nonce op text)).snd != 0
 | Bool.false => !(Go.Proofs.Ytiaddnmloonhgaa.openL key nonce op (Go.Proofs.Ytiaddnmloonhgaa.sealL key nonce op text)).snd != 0 then
 Option.none
 else bif (Go.Proofs.Ytiaddnmloonhgaa.openL key nonce op (Go.Proofs.Ytiaddnmloonhgaa.sealL key nonce op text)).snd != 0 then k [Go.Eng.DV.v (Go.Eng.SV.one (Go.Eng.At.bool Bool.false))] else Option.none
 else
 bif
 match Bool.false with
 | Bool.true => (Go.Proofs.Ytiaddnmloonhgaa.openL key nonce op (Go.Proofs.Ytiaddnmloonhgaa.sealL key nonce op text)).snd != 0
 | Bool.false => !(Go.Proofs.Ytiaddnmloonhgaa.openL key nonce op (Go.Proofs.Ytiaddnmloonhgaa.sealL key nonce op text)).snd != 0 then
 Option.none
 else bif (Go.Proofs.Ytiaddnmloonhgaa.openL key nonce op (Go.Proofs.Ytiaddnmloonhgaa.sealL key nonce op text)).snd != 0 then k [Go.Eng.DV.v (Go.Eng.SV.one (Go.Eng.At.bool Bool.false))] else Option.none
 else
 bif
 match Bool.false with
 | Bool.true => (Go.Proofs.Ytiaddnmloonhgaa.openL key nonce op (Go.Proofs.Ytiaddnmloonhgaa.sealL key nonce op text)).snd != 0
 | Bool.false => !(Go.Proofs.Ytiaddnmloonhgaa.openL key nonce op (Go.Proofs.Ytiaddnmloonhgaa.sealL key nonce op text)).snd != 0 then
 Option.none
 else
 bif
 match Bool.false with
 | Bool.true => (Go.Proofs.Ytiaddnmloonhgaa.openL key nonce op (Go.Proofs.Ytiaddnmloonhgaa.sealL key nonce op text)).snd != 0
 | Bool.false => !(Go.Proofs.Ytiaddnmloonhgaa.openL key nonce op (Go.Proofs.Ytiaddnmloonhgaa.sealL key nonce op text)).snd != 0 then
 Option.none
 else bif (Go.Proofs.Ytiaddnmloonhgaa.openL key nonce op (Go.Proofs.Ytiaddnmloonhgaa.sealL key nonce op text)).snd != 0 then k [Go.Eng.DV.v (Go.Eng.SV.one (Go.Eng.At.bool Bool.false))] else Option.none
 else
 bif
 match Bool.false with
 | Bool.true => (Go.Proofs.Ytiaddnmloonhgaa.openL key nonce op (Go.Proofs.Ytiaddnmloonhgaa.sealL key nonce op text)).snd != 0
 | Bool.false => !(Go.Proofs.Ytiaddnmloonhgaa.openL key nonce op (Go.Proofs.Ytiaddnmloonhgaa.sealL key nonce op text)).snd != 0 then
 Option.none
 else
 bif
 match Bool.false with
 | Bool.true => (Go.Proofs.Ytiaddnmloonhgaa.openL key nonce op (Go.Proofs.Ytiaddnmloonhgaa.sealL key nonce op text)).snd != 0
 | Bool.false => !(Go.Proofs.Ytiaddnmloonhgaa.openL key nonce op (Go.Proofs.Ytiaddnmloonhgaa.sealL key nonce op text)).snd != 0 then
 Option.none
 else
 bif
 match Bool.false with
 | Bool.true => (Go.Proofs.Ytiaddnmloonhgaa.openL key nonce op (Go.Proofs.Ytiaddnmloonhgaa.sealL key nonce op text)).snd != 0
 | Bool.false => !(Go.Proofs.Ytiaddnmloonhgaa.openL key nonce op (Go.Proofs.Ytiaddnmloonhgaa.sealL key nonce op text)).snd != 0 then
 Option.none
 else bif (Go.Proofs.Ytiaddnmloonhgaa.openL key nonce op (Go.Proofs.Ytiaddnmloonhgaa.sealL key nonce op text)).snd != 0 then k [Go.Eng.DV.v (Go.Eng.SV.one (Go.Eng.At.bool Bool.false))] else Option.none
 else
 bif
 match Bool.false with
 | Bool.true => (Go.Proofs.Ytiaddnmloonhgaa.openL key nonce op (Go.Proofs.Ytiaddnmloonhgaa.sealL key nonce op text)).snd != 0
 | Bool.false => !(Go.Proofs.Ytiaddnmloonhgaa.openL key nonce op (Go.Proofs.Ytiaddnmloonhgaa.sealL key nonce op text)).snd != 0 then
 Option.none
 else
 bif
 match Bool.false with
 | Bool.true => (Go.Proofs.Ytiaddnmloonhgaa.openL key nonce op (Go.Proofs.Ytiaddnmloonhgaa.sealL key nonce op text)).snd != 0
 | Bool.false => !(Go.Proofs.Ytiaddnmloonhgaa.openL key nonce op (Go.Proofs.Ytiaddnmloonhgaa.sealL key nonce op text)).snd != 0 then
 bif
 match Bool.false with
 | Bool.true => (Go.Proofs.Ytiaddnmloonhgaa.openL key nonce op (Go.Proofs.Ytiaddnmloonhgaa.sealL key nonce op text)).snd != 0
 | Bool.false => !(Go.Proofs.Ytiaddnmloonhgaa.openL key nonce op (Go.Proofs.Ytiaddnmloonhgaa.sealL key nonce op text)).snd != 0 then
 bif
 match Bool.false with
 | Bool.true => (Go.Proofs.Ytiaddnmloonhgaa.openL key nonce op (Go.Proofs.Ytiaddnmloonhgaa.sealL key nonce op text)).snd != 0
 | Bool.false => !(Go.Proofs.Ytiaddnmloonhgaa.openL key nonce op (Go.Proofs.Ytiaddnmloonhgaa.sealL key nonce op text)).snd != 0 then
 bif
 match Bool.false with
 | Bool.true => (Go.Proofs.Ytiaddnmloonhgaa.openL key nonce op (Go.Proofs.Ytiaddnmloonhgaa.sealL key nonce op text)).snd != 0
 | Bool.false => !(Go.Proofs.Ytiaddnmloonhgaa.openL key nonce op (Go.Proofs.Ytiaddnmloonhgaa.sealL key nonce op text)).snd != 0 then
 Option.none
 else bif (Go.Proofs.Ytiaddnmloonhgaa.openL key nonce op (Go.Proofs.Ytiaddnmloonhgaa.sealL key nonce op text)).snd != 0 then k [Go.Eng.DV.v (Go.Eng.SV.one (Go.Eng.At.bool Bool.false))] else Option.none
 else
 bif
 match Bool.false with
 | Bool.true => (Go.Proofs.Ytiaddnmloonhgaa.openL key nonce op (Go.Proofs.Ytiaddnmloonhgaa.sealL key nonce op text)).snd != 0
 | Bool.false => !(Go.Proofs.Ytiaddnmloonhgaa.openL key nonce op (Go.Proofs.Ytiaddnmloonhgaa.sealL key nonce op text)).snd != 0 then
 Option.none
 else bif (Go.Proofs.Ytiaddnmloonhgaa.openL key nonce op (Go.Proofs.Ytiaddnmloonhgaa.sealL key nonce op text)).snd != 0 then k [Go.Eng.DV.v (Go.Eng.SV.one (Go.Eng.At.bool Bool.false))] else Option.none
 else
 bif
 match Bool.false with
 | Bool.true => (Go.Proofs.Ytiaddnmloonhgaa.openL key nonce op (Go.Proofs.Ytiaddnmloonhgaa.sealL key nonce op text)).snd != 0
 | Bool.false => !(Go.Proofs.Ytiaddnmloonhgaa.openL key nonce op (Go.Proofs.Ytiaddnmloonhgaa.sealL key nonce op text)).snd != 0 then
 Option.none
 else
 bif
 match Bool.false with
 | Bool.true => (Go.Proofs.Ytiaddnmloonhgaa.openL key nonce op (Go.Proofs.Ytiaddnmloonhgaa.sealL key nonce op text)).snd != 0
 | Bool.false => !(Go.Proofs.Ytiaddnmloonhgaa.openL key nonce op (Go.Proofs.Ytiaddnmloonhgaa.sealL key nonce op text)).snd != 0 then
 Option.none
 else bif (Go.Proofs.Ytiaddnmloonhgaa.openL key nonce op (Go.Proofs.Ytiaddnmloonhgaa.sealL key nonce op text)).snd != 0 then k [Go.Eng.DV.v (Go.Eng.SV.one (Go.Eng.At.bool Bool.false))] else Option.none
 else
 bif
 match Bool.false with
 | Bool.true => (Go.Proofs.Ytiaddnmloonhgaa.openL key nonce op (Go.Proofs.Ytiaddnmloonhgaa.sealL key nonce op text)).snd != 0
 | Bool.false => !(Go.Proofs.Ytiaddnmloonhgaa.openL key nonce op (Go.Proofs.Ytiaddnmloonhgaa.sealL key nonce op text)).snd != 0 then
 Option.none
 else
 bif
 match Bool.false with
 | Bool.true => (Go.Proofs.Ytiaddnmloonhgaa.openL key nonce op (Go.Proofs.Ytiaddnmloonhgaa.sealL key nonce op text)).snd != 0
 | Bool.false => !(Go.Proofs.Ytiaddnmloonhgaa.openL key nonce op (Go.Proofs.Ytiaddnmloonhgaa.sealL key nonce op text)).snd != 0 then
 Option.none
 else
 bif
 match Bool.false with
 | Bool.true => (Go.Proofs.Ytiaddnmloonhgaa.openL key nonce op (Go.Proofs.Ytiaddnmloonhgaa.sealL key nonce op text)).snd != 0
 | Bool.false => !(Go.Proofs.Ytiaddnmloonhgaa.openL key nonce op (Go.Proofs.Ytiaddnmloonhgaa.sealL key nonce op text)).snd != 0 then
 Option.none
 else bif (Go.Proofs.Ytiaddnmloonhgaa.openL key nonce op (Go.Proofs.Ytiaddnmloonhgaa.sealL key nonce op text)).snd != 0 then k [Go.Eng.DV.v (Go.Eng.SV.one (Go.Eng.At.bool Bool.false))] else Option.none
 else Option.none
else Option.none


noncomputable def E6 (N : Nat) : Env := { Θ := Th, Γ := G6, K := K6, ν := N6, fuel := 0, lp := [] }


theorem f6_loops (N : Nat) (hΓ : CtxOk Try.prog G6) : LoopsOk Try.prog (E6 N).lp B6 := loopsOk_of (l := []) (by kernel_rfl) trivial
theorem f6_raw_eq {R : Type} (N : Nat) (key : List Int) (nonce : List Int) (op : List Int) (text : List Int) (other : List Int) (at_ : Int) (by_ : Int) (k : List DV → Option R) : exec (E6 N) B6 (caseS 126 key nonce op text other at_ by_) (retK Th { ps := [], rs := [.val] } [] R6 k) = f6_raw N key nonce op text other at_ by_ k := by kernel_rfl
end Go.Proofs.Ytiaddnmloonhgaa

