/- A part of the proof: ShamirThroughs: for any points whose data stay within 1,048,576: Through answers as the document, and the points that were handed in stand as they stood. -/
import Derived.Test.YtogcijgklnfjjaaShamirThroughsUptoSaidT4
import Derived.Test.YtogcijgklnfjjaaRows
import Derived.JoinedCond
set_option linter.unusedVariables false
set_option linter.unusedSimpArgs false

/- The document's differences, products with a sum. -/
namespace Go.Proofs.Ytogcijgklnfjjaa
open Go Go.Eng
set_option maxRecDepth 100000
set_option linter.unusedVariables false

theorem c62 : Contract Try.prog 62 { sig := S62, impl := I32 } := by
  refine Contract.refine fun R ds k r h => ⟨_, f62_contract 0 GT_ok, ?_⟩
  unfold I32 at h
  split at h
  · rename_i x y
    rcases hc : okB x && okB y with _ | _
    · rw [hc] at h; cases h
    · rw [hc, cond_true] at h
      rw [Bool.and_eq_true] at hc
      rw [f62_raw_eq]
      unfold f62_raw
      simp only [hc.1, hc.2, cond_true, Bool.and_self, okB_sN, vS_sN (negN_lt _)]
      exact h
  · cases h
theorem c28 : Contract Try.prog 28 { sig := S28, impl := I42 } := by
  refine Contract.refine fun R ds k r h => ⟨_, f28_contract 0 GT_ok, ?_⟩
  unfold I42 at h
  split at h
  · rename_i x y z
    rcases hc : okB x && okB y && okB z with _ | _
    · rw [hc] at h; cases h
    · rw [hc, cond_true] at h
      rw [Bool.and_eq_true, Bool.and_eq_true] at hc
      rw [f28_raw_eq]
      unfold f28_raw
      simp only [hc.1.1, hc.1.2, hc.2, cond_true, Bool.and_self, okB_sN, vS_sN (mulN_lt _ _)]
      exact h
  · cases h

/-! ### powers -/
theorem bits8 : (2 : Nat) ^ IntKind.u8.bits = 256 := by decide
theorem bit8 {b : Nat} (hb : b < 256) (j : Nat) (hj : j ≤ 8) : andI .u8 (shrI .u8 (b : Int) (j : Int)) 1 = ((b / 2 ^ j % 2 : Nat) : Int) := by
  rw [shrN (k := .u8) (m := j) (show j ≤ 8 from hj)]
  exact maskN (k := .u8) (j := 1) rfl (show b / 2 ^ j < 2 ^ IntKind.u8.bits by rw [bits8]; exact Nat.lt_of_le_of_lt (Nat.div_le_self _ _) hb) (by decide)
theorem mulN_mod (a b : Nat) : mulN (a % ell) (b % ell) = a * b % ell := by rw [mulN_def, ← Nat.mul_mod]
theorem f86_in {R : Type} (N : Nat) (k1 : Bool → Int → Int → List Int → List Int → List Int → List Int → Option R) {l : List Nat} {i b : Nat} (hi : i < l.length) (hb : b < 256) (hlb : l.getD i 0 = b) (z : List Int) (a : Nat) :
    ∀ (j : Nat), j ≤ 8 → ∀ (fuel v : Nat), j < fuel → f86_2_lp N k1 fuel (i : Int) ((j : Int) - 1) (nats l) z (dN (a % ell)) (dN (v % ell)) = k1 false (i : Int) (-1) (nats l) z (dN (a % ell)) (dN (v ^ 2 ^ j * a ^ (b % 2 ^ j) % ell)) := by
  intro j
  induction j with
  | zero =>
    intro _ fuel v hf
    obtain ⟨fuel, rfl⟩ : ∃ n, fuel = n + 1 := ⟨fuel - 1, by omega⟩
    show f86_2_st N (f86_2_lp N k1 fuel) k1 (i : Int) (-1) (nats l) z (dN (a % ell)) (dN (v % ell)) = _
    unfold f86_2_st
    rw [decide_eq_false (show ¬ ((-1 : Int) ≥ 0) by decide), cond_false, Nat.pow_zero, Nat.pow_one, Nat.mod_one, Nat.pow_zero, Nat.mul_one]
  | succ j ih =>
    intro hj fuel v hf
    obtain ⟨fuel, rfl⟩ : ∃ n, fuel = n + 1 := ⟨fuel - 1, by omega⟩
    rw [show ((j + 1 : Nat) : Int) - 1 = (j : Int) by omega]
    show f86_2_st N (f86_2_lp N k1 fuel) k1 (i : Int) (j : Int) (nats l) z (dN (a % ell)) (dN (v % ell)) = _
    unfold f86_2_st
    have hs : IntKind.i64.wrap ((j : Int) - 1) = (j : Int) - 1 := wrapI (by omega) (by omega)
    have hln : nI (rowLen 1 (nats l)) = (l.length : Int) := by show (((nats l).length : Nat) : Int) = _; rw [nats_length]
    have hvl : v % ell < ell := Nat.mod_lt _ ell_pos
    have hal : a % ell < ell := Nat.mod_lt _ ell_pos
    dsimp only
    rw [decide_eq_true (show ((j : Int) ≥ 0) by omega), hln, decide_eq_true (show (0 : Int) ≤ (i : Int) by omega), decide_eq_true (show (i : Int) < (l.length : Int) by omega), okD_dN, w64 (n := j) (by omega), decide_eq_true (show (0 : Int) ≤ (j : Int) by omega),
      show mulE (Int.toNat (i : Int)) 1 = i from rfl, nats_getD, hlb, bit8 hb j (by omega), hs, okD_dN, okD_dN]
    simp only [Bool.and_self, cond_true]
    rw [nD_dl hvl, mulN_mod, nD_dl (Nat.mod_lt _ ell_pos), nD_dl hal, mulN_mod, ih (by omega) fuel _ (by omega), ih (by omega) fuel _ (by omega)]
    have hp := pow_step a v b j
    rcases Nat.mod_two_eq_zero_or_one (b / 2 ^ j) with h | h
    · rw [h] at hp ⊢
      rw [if_neg (by decide), Nat.mul_one] at hp
      rw [show (((0 : Nat) : Int) == 1) = false from rfl, cond_false, hp]
    · rw [h] at hp ⊢
      rw [if_pos rfl] at hp
      rw [show (((1 : Nat) : Int) == 1) = true from rfl, cond_true, hp]
theorem getB_lt {l : List Nat} (h : ∀ x ∈ l, x < 256) (j : Nat) : l.getD j 0 < 256 := by
  by_cases hj : j < l.length
  · rw [List.getD_eq_getElem?_getD, List.getElem?_eq_getElem hj]; exact h _ (List.getElem_mem _)
  · rw [List.getD_eq_getElem?_getD, List.getElem?_eq_none (by omega)]; decide
theorem f86_out {R : Type} {N : Nat} (hN : 8 < N) (k1 : Bool → Int → List Int → List Int → List Int → List Int → Option R) {l : List Nat} (hl : l.length ≤ 1000000) (hb : ∀ x ∈ l, x < 256) (z : List Int) (a : Nat) :
    ∀ m : Nat, m ≤ l.length → ∀ fuel v, m < fuel → f86_0_lp N k1 fuel ((m : Int) - 1) (nats l) z (dN (a % ell)) (dN (v % ell)) = k1 false (-1) (nats l) z (dN (a % ell)) (dN (v ^ 256 ^ m * a ^ (valB 256 (l.take m)) % ell)) := by
  intro m
  induction m with
  | zero =>
    intro _ fuel v hf
    obtain ⟨f, rfl⟩ : ∃ f, fuel = f + 1 := ⟨fuel - 1, by omega⟩
    show f86_0_st N (f86_0_lp N k1 f) k1 (-1) (nats l) z (dN (a % ell)) (dN (v % ell)) = _
    unfold f86_0_st
    rw [decide_eq_false (show ¬ ((-1 : Int) ≥ 0) by decide), cond_false, Nat.pow_zero, Nat.pow_one, List.take_zero, show valB 256 ([] : List Nat) = 0 from rfl, Nat.pow_zero, Nat.mul_one]
  | succ m ih =>
    intro hm fuel v hf
    obtain ⟨f, rfl⟩ : ∃ f, fuel = f + 1 := ⟨fuel - 1, by omega⟩
    rw [show ((m + 1 : Nat) : Int) - 1 = (m : Int) by omega]
    show f86_0_st N (f86_0_lp N k1 f) k1 (m : Int) (nats l) z (dN (a % ell)) (dN (v % ell)) = _
    unfold f86_0_st
    rw [decide_eq_true (show (m : Int) ≥ 0 by omega), cond_true]
    have h0 := f86_in N (fun w0_1 w0_2 w0_3 w0_4 w0_5 w0_6 w0_7 => f86_0_lp N k1 f (IntKind.i64.wrap (w0_2 - 1)) w0_4 w0_5 w0_6 w0_7) (l := l) (i := m) (b := l.getD m 0) (by omega) (getB_lt hb m) rfl z a 8 (Nat.le_refl _) N v hN
    refine h0.trans ?_
    have e1 : IntKind.i64.wrap ((m : Int) - 1) = (m : Int) - 1 := wrapI (by omega) (by omega)
    have hbm := getB_lt hb m
    show f86_0_lp N k1 f (IntKind.i64.wrap ((m : Int) - 1)) (nats l) z (dN (a % ell)) (dN (v ^ 2 ^ 8 * a ^ (l.getD m 0 % 2 ^ 8) % ell)) = _
    rw [e1, ih (by omega) f _ (by omega)]
    have e2 : (v ^ 2 ^ 8 * a ^ (l.getD m 0 % 2 ^ 8)) ^ 256 ^ m * a ^ valB 256 (l.take m) = v ^ 256 ^ (m + 1) * a ^ valB 256 (l.take (m + 1)) := by
      rw [take_valY l (by omega), show (2 : Nat) ^ 8 = 256 from rfl, Nat.mod_eq_of_lt hbm, Nat.mul_pow, ← Nat.pow_mul, ← Nat.pow_mul, Nat.pow_succ 256 m, Nat.mul_comm 256, Nat.mul_assoc, ← Nat.pow_add, Nat.add_comm (l.getD m 0 * 256 ^ m)]
    rw [e2]

theorem d_one : (List.replicate 8 (0 : Int)).set 0 1 = dN (1 % ell) := by rw [Nat.mod_eq_of_lt one_lt_ell, dN_def]; decide
noncomputable def I86 : (R : Type) → List DV → (List DV → Option R) → Option R := fun _ ds k => match ds with
  | [.v (.one (.ints .u8 32 x)), .lst (.one .u8) 1 e] => bif okB x && okB e then k [.v (.one (.ints .u8 32 (sN (powN (vS x) (numB e)))))] else none
  | _ => none
theorem c86 : Contract Try.prog 86 { sig := S86, impl := I86 } := by
  refine Contract.refine fun R ds k r h => ⟨_, f86_contract 40 GR_ok, ?_⟩
  unfold I86 at h
  split at h
  · rename_i x e
    rcases hc : okB x && okB e with _ | _
    · rw [hc] at h; cases h
    · rw [hc, cond_true] at h
      rw [Bool.and_eq_true] at hc
      obtain ⟨l, rfl, hl, hb⟩ := okB_of hc.2
      rw [numB_nats] at h
      rw [f86_raw_eq]
      unfold f86_raw
      dsimp only
      have e1 : IntKind.i64.wrap (nI (rowLen 1 (nats l)) - 1) = (l.length : Int) - 1 := by
        rw [show nI (rowLen 1 (nats l)) = (l.length : Int) from by show (((nats l).length : Nat) : Int) = _; rw [nats_length]]
        exact wrapI (by omega) (by omega)
      have := f86_out (N := 40) (by decide) (fun w2_1 w2_2 w2_3 w2_4 w2_5 w2_6 => bif okD w2_6 then k [DV.v (SV.one (At.ints IntKind.u8 32 (sN (nD w2_6))))] else Option.none) (l := l) (by omega) hb (List.replicate 32 0) (vS x) l.length (Nat.le_refl _) 40 1 (by omega)
      rw [hc.1, cond_true, e1, d_one, show dN (vS x) = dN (vS x % ell) by rw [Nat.mod_eq_of_lt (vS_lt x)], this, okD_dN, cond_true, Nat.one_pow, Nat.one_mul, List.take_length, ← powN_def, nD_dl (powN_lt _ _)]
      exact h
  · cases h
end Go.Proofs.Ytogcijgklnfjjaa

/- The document's order less two. -/
namespace Go.Proofs.Ytogcijgklnfjjaa
open Go Go.Eng
set_option maxRecDepth 100000
set_option linter.unusedVariables false

noncomputable def I87 : (R : Type) → List DV → (List DV → Option R) → Option R := fun _ ds k => match ds with
  | [.v (.one (.int .u32 x))] => bif decide (x = 2) then k [.lst (.one .u8) 1 (sN (ell - 2))] else none
  | _ => none
theorem two_d : (List.replicate 8 (0 : Int)).set 0 2 = dN 2 := by rw [dN_def]; decide
theorem c87 : Contract Try.prog 87 { sig := S87, impl := I87 } := by
  refine Contract.refine fun R ds k r h => ⟨_, f87_contract 0 GR_ok, ?_⟩
  unfold I87 at h
  split at h
  · rename_i x
    by_cases hx : x = 2
    · subst hx
      rw [decide_eq_true rfl, cond_true] at h
      rw [f87_raw_eq]
      unfold f87_raw
      dsimp only
      have h2 : 2 ≤ ell := by rw [ell_def]; decide
      rw [two_d, okD_dN, okD_dN, nD_dN (show 2 < WW ^ 4 by rw [W4]; decide), nD_dN ell_lt, decide_eq_true h2, okD_dN, nD_dN (show ell - 2 < WW ^ 4 from Nat.lt_of_le_of_lt (Nat.sub_le _ _) ell_lt)]
      exact h
    · rw [decide_eq_false hx] at h; cases h
  · cases h
noncomputable def G63 : Ctx := [(85, { sig := S85, impl := I88 }), (86, { sig := S86, impl := I86 }), (87, { sig := S87, impl := I87 })]
theorem G63_ok : CtxOk Try.prog G63 := ctxOk_cons ok85 rfl c85 (ctxOk_cons ok86 rfl c86 (ctxOk_cons ok87 rfl c87 ctxOk_nil))
end Go.Proofs.Ytogcijgklnfjjaa

/- What rime/rimeref02.Invert comes to. MADE BY PROGRAM (wip/tools/mkfn.py, EngGen.lean). -/
namespace Go.Proofs.Ytogcijgklnfjjaa
open Go Go.Eng
set_option maxRecDepth 100000
set_option linter.unusedVariables false

noncomputable def f63_raw {R : Type} (N : Nat) (x : List Int) (k : List DV → Option R) : Option R :=
 bif okB x then bif Decidable.decide (vS x = 0) then k [DV.v (SV.one (At.ints IntKind.u8 32 (List.replicate 32 0))), DV.v (SV.one (At.int IntKind.i64 9))] else bif okB x && okB (sN (ell - 2)) then k [DV.v (SV.one (At.ints IntKind.u8 32 (sN (powN (vS x) (numB (sN (ell - 2))))))), DV.v (SV.one (At.int IntKind.i64 0))] else Option.none else Option.none


noncomputable def E63 (N : Nat) : Env := { Θ := Th, Γ := G63, K := K63, ν := N63, fuel := 0, lp := [] }


theorem f63_contract (N : Nat) (hΓ : CtxOk Try.prog G63) : Contract Try.prog 63 { sig := S63, impl := fun _ ds k => call (E63 N) S63 10 B63 R63 ds k } :=
  call_contract (E := E63 N) thOk hΓ mixed ok63.look ok63.body ok63.n ok63.rv ok63.name rfl (by decide) (loopsOk_of (l := []) (by kernel_rfl) trivial)
theorem f63_raw_eq {R : Type} (N : Nat) (x : List Int) (k : List DV → Option R) : call (E63 N) S63 10 B63 R63 [.v (.one (.ints .u8 32 x))] k = f63_raw N x k := by kernel_rfl
end Go.Proofs.Ytogcijgklnfjjaa

/- The document's inverse; all of its scalars as a context. -/
namespace Go.Proofs.Ytogcijgklnfjjaa
open Go Go.Eng
set_option maxRecDepth 100000
set_option linter.unusedVariables false

theorem c63 : Contract Try.prog 63 { sig := S63, impl := I31 } := by
  refine Contract.refine fun R ds k r h => ⟨_, f63_contract 0 G63_ok, ?_⟩
  unfold I31 at h
  split at h
  · rename_i x
    rcases hc : okB x with _ | _
    · rw [hc] at h; cases h
    · rw [hc, cond_true] at h
      rw [f63_raw_eq]
      unfold f63_raw
      rw [hc, okB_sN, numB_sN (show ell - 2 < WW ^ 4 from Nat.lt_of_le_of_lt (Nat.sub_le _ _) ell_lt), ← invN_def]
      exact h
  · cases h
/-- the document's scalars -/
noncomputable def GRX : Ctx := [(14, { sig := S14, impl := I30 }), (15, { sig := S15, impl := I33 }), (28, { sig := S28, impl := I42 }), (41, { sig := S41, impl := I41 }), (62, { sig := S62, impl := I32 }), (63, { sig := S63, impl := I31 }), (84, { sig := S84, impl := I71 }), (85, { sig := S85, impl := I88 })]
theorem GRX_ok : CtxOk Try.prog GRX := ctxOk_cons ok14 rfl c14 (ctxOk_cons ok15 rfl c15 (ctxOk_cons ok28 rfl c28 (ctxOk_cons ok41 rfl c41 (ctxOk_cons ok62 rfl c62 (ctxOk_cons ok63 rfl c63 (ctxOk_cons ok84 rfl c84 (ctxOk_cons ok85 rfl c85 ctxOk_nil)))))))
end Go.Proofs.Ytogcijgklnfjjaa

/- The contexts for shamir's functions: the program's scalars, the document's scalars. -/
namespace Go.Proofs.Ytogcijgklnfjjaa
open Go Go.Eng
noncomputable def GY : Ctx := (76, { sig := S76, impl := I76 }) :: (77, { sig := S77, impl := I77 }) :: GX
theorem GY_ok : CtxOk Try.prog GY := ctxOk_cons ok76 rfl c76 (ctxOk_cons ok77 rfl c77 GX_ok)
end Go.Proofs.Ytogcijgklnfjjaa

/- What rime/shamir.place comes to. MADE BY PROGRAM (wip/tools/mkfn.py, EngGen.lean). -/
namespace Go.Proofs.Ytogcijgklnfjjaa
open Go Go.Eng
set_option maxRecDepth 100000
set_option linter.unusedVariables false

noncomputable def f40_raw {R : Type} (N : Nat) (x : Int) (k : List DV → Option R) : Option R :=
 let v0 : Int := IntKind.u64.wrap x;
bif okU v0 then k [DV.v (SV.one (At.ints IntKind.u8 32 (sN v0.toNat)))] else Option.none


noncomputable def E40 (N : Nat) : Env := { Θ := Th, Γ := GY, K := K40, ν := N40, fuel := 0, lp := [] }


theorem f40_contract (N : Nat) (hΓ : CtxOk Try.prog GY) : Contract Try.prog 40 { sig := S40, impl := fun _ ds k => call (E40 N) S40 6 B40 R40 ds k } :=
  call_contract (E := E40 N) thOk hΓ mixed ok40.look ok40.body ok40.n ok40.rv ok40.name rfl (by decide) (loopsOk_of (l := []) (by kernel_rfl) trivial)
theorem f40_raw_eq {R : Type} (N : Nat) (x : Int) (k : List DV → Option R) : call (E40 N) S40 6 B40 R40 [.v (.one (.int .i64 x))] k = f40_raw N x k := by kernel_rfl
end Go.Proofs.Ytogcijgklnfjjaa

/- What rime/rimeref07.Place comes to. MADE BY PROGRAM (wip/tools/mkfn.py, EngGen.lean). -/
namespace Go.Proofs.Ytogcijgklnfjjaa
open Go Go.Eng
set_option maxRecDepth 100000
set_option linter.unusedVariables false

noncomputable def f17_raw {R : Type} (N : Nat) (x : Int) (k : List DV → Option R) : Option R :=
 let v0 : Int := IntKind.u64.wrap x;
bif okU v0 then k [DV.v (SV.one (At.ints IntKind.u8 32 (sN v0.toNat)))] else Option.none


noncomputable def E17 (N : Nat) : Env := { Θ := Th, Γ := GRX, K := K17, ν := N17, fuel := 0, lp := [] }


theorem f17_contract (N : Nat) (hΓ : CtxOk Try.prog GRX) : Contract Try.prog 17 { sig := S17, impl := fun _ ds k => call (E17 N) S17 6 B17 R17 ds k } :=
  call_contract (E := E17 N) thOk hΓ mixed ok17.look ok17.body ok17.n ok17.rv ok17.name rfl (by decide) (loopsOk_of (l := []) (by kernel_rfl) trivial)
theorem f17_raw_eq {R : Type} (N : Nat) (x : Int) (k : List DV → Option R) : call (E17 N) S17 6 B17 R17 [.v (.one (.int .i64 x))] k = f17_raw N x k := by kernel_rfl
end Go.Proofs.Ytogcijgklnfjjaa

/- What rime/shamir.Eval comes to. MADE BY PROGRAM (wip/tools/mkfn.py, EngGen.lean). -/
namespace Go.Proofs.Ytogcijgklnfjjaa
open Go Go.Eng
set_option maxRecDepth 100000
set_option linter.unusedVariables false

def f19_0_sh : Shp := { n := 22, lo := 2, slots := [(0, .one (.fix (At.own 0))), (3, .one (.fix (At.ptr 3 0 Off.z 32))), (4, .one (.fix (At.ptr 4 0 Off.z 32))), (5, .one (.fix (At.ptr 5 0 Off.z 32))), (6, .one (.int IntKind.i64))], items := [(0, .view (RK.one IntKind.u8) 32), (3, .obj [.ints IntKind.u8 32]), (4, .obj [.ints IntKind.u8 32]), (5, .obj [.ints IntKind.u8 32])] }
def f19_0_ex1 : Shp := { n := 22, lo := 2, slots := [(11, .one (.bool)), (0, .one (.fix (At.own 0))), (3, .one (.fix (At.ptr 3 0 Off.z 32))), (4, .one (.fix (At.ptr 4 0 Off.z 32))), (5, .one (.fix (At.ptr 5 0 Off.z 32))), (6, .one (.int IntKind.i64))], items := [(0, .view (RK.one IntKind.u8) 32), (3, .obj [.ints IntKind.u8 32]), (4, .obj [.ints IntKind.u8 32]), (5, .obj [.ints IntKind.u8 32])] }
noncomputable def f19_0_st {R : Type} (N : Nat) (self : Int → List Int → List Int → List Int → List Int → Option R) (k1 : Bool → Int → List Int → List Int → List Int → List Int → Option R) (x1 : Int) (x2 : List Int) (x3 : List Int) (x4 : List Int) (x5 : List Int) : Option R :=
 bif Decidable.decide (x1 ≥ 0) then
 bif Decidable.decide (0 ≤ x1) && Decidable.decide (x1 < nI (rowLen 32 x2)) then
 bif okB x5 && okB x3 && okB (List.take 32 (List.drop (mulE x1.toNat 32) x2)) then
 let v0 : Int := IntKind.i64.wrap (x1 - 1);
 self v0 x2 x3 x4 (sN (addN (mulN (vS x5) (vS x3)) (vS (List.take 32 (List.drop (mulE x1.toNat 32) x2)))))
 else Option.none
 else Option.none
else k1 (Decidable.decide (x1 ≥ 0)) x1 x2 x3 x4 x5
noncomputable def f19_0_lp {R : Type} (N : Nat) (k1 : Bool → Int → List Int → List Int → List Int → List Int → Option R) : Nat → Int → List Int → List Int → List Int → List Int → Option R
 | 0, _, _, _, _, _ => none
 | n + 1, x1, x2, x3, x4, x5 => f19_0_st N (f19_0_lp N k1 n) k1 x1 x2 x3 x4 x5
noncomputable def f19_0_F (N : Nat) : (R : Type) → List Leaf → (X → AS → Option R) → Option R := fun _ ls K => match ls with
 | [.i x1, .l x2, .l x3, .l x4, .l x5] => f19_0_lp N (fun y1 y2 y3 y4 y5 y6 => K (X.normal) (fill f19_0_ex1 [.b y1, .i y2, .l y3, .l y4, .l y5, .l y6])) N x1 x2 x3 x4 x5
 | _ => none
noncomputable def f19_raw {R : Type} (N : Nat) (xs : List Int) (x : List Int) (k : List DV → Option R) : Option R :=
 let v0 : Int := IntKind.i64.wrap (nI (rowLen 32 xs) - 1);
f19_0_lp N (fun w1_1 w1_2 w1_3 w1_4 w1_5 w1_6 => k [DV.v (SV.one (At.ints IntKind.u8 32 w1_6))]) N v0 xs x (List.replicate 32 0) (List.replicate 32 0)


noncomputable def E19 (N : Nat) : Env := { Θ := Th, Γ := GY, K := K19, ν := N19, fuel := 0, lp := [(0, mkL N19_0 f19_0_sh (f19_0_F N))] }

theorem f19_0_st_eq {R : Type} (N : Nat) (K : X → AS → Option R) (n : Nat) (x1 : Int) (x2 : List Int) (x3 : List Int) (x4 : List Int) (x5 : List Int) : roundsOf (E19 N) N19_0 0 B19_0 K (n + 1) (fill f19_0_sh [.i x1, .l x2, .l x3, .l x4, .l x5]) = f19_0_st N (fun x1 x2 x3 x4 x5 => roundsOf (E19 N) N19_0 0 B19_0 K n (fill f19_0_sh [.i x1, .l x2, .l x3, .l x4, .l x5])) (fun y1 y2 y3 y4 y5 y6 => K (X.normal) (fill f19_0_ex1 [.b y1, .i y2, .l y3, .l y4, .l y5, .l y6])) x1 x2 x3 x4 x5 := by kernel_rfl
theorem f19_0_lp_eq {R : Type} (N : Nat) (K : X → AS → Option R) : ∀ (n : Nat) (x1 : Int) (x2 : List Int) (x3 : List Int) (x4 : List Int) (x5 : List Int), roundsOf (E19 N) N19_0 0 B19_0 K n (fill f19_0_sh [.i x1, .l x2, .l x3, .l x4, .l x5]) = f19_0_lp N (fun y1 y2 y3 y4 y5 y6 => K (X.normal) (fill f19_0_ex1 [.b y1, .i y2, .l y3, .l y4, .l y5, .l y6])) n x1 x2 x3 x4 x5
  | 0, _, _, _, _, _ => rfl
  | n + 1, x1, x2, x3, x4, x5 => by
    rw [f19_0_st_eq, f19_0_lp, show (fun x1 x2 x3 x4 x5 => roundsOf (E19 N) N19_0 0 B19_0 K n (fill f19_0_sh [.i x1, .l x2, .l x3, .l x4, .l x5])) = f19_0_lp N (fun y1 y2 y3 y4 y5 y6 => K (X.normal) (fill f19_0_ex1 [.b y1, .i y2, .l y3, .l y4, .l y5, .l y6])) n from by funext x1 x2 x3 x4 x5; exact f19_0_lp_eq N K n x1 x2 x3 x4 x5]
theorem f19_0_ok (N : Nat) (hlp : LoopsOk Try.prog (E19 N).lp B19_0) (hΓ : CtxOk Try.prog (E19 N).Γ) : LoopOk Try.prog (mkL N19_0 f19_0_sh (f19_0_F N)) 0 B19_0 := by
  refine loopOk_of (E := E19 N) thOk hΓ mixed hlp ?_
  intro R ls K r h
  unfold f19_0_F at h
  split at h
  · exact ⟨N, by rw [f19_0_lp_eq]; exact h⟩
  · cases h

theorem lok19_0 (N : Nat) (hΓ : CtxOk Try.prog GY) : LoopOk Try.prog (mkL N19_0 f19_0_sh (f19_0_F N)) 0 B19_0 := f19_0_ok N (loopsOk_of (l := []) (by kernel_rfl) trivial) hΓ
theorem f19_contract (N : Nat) (hΓ : CtxOk Try.prog GY) : Contract Try.prog 19 { sig := S19, impl := fun _ ds k => call (E19 N) S19 22 B19 R19 ds k } :=
  call_contract (E := E19 N) thOk hΓ mixed ok19.look ok19.body ok19.n ok19.rv ok19.name rfl (by decide) (loopsOk_of (l := [(0, B19_0)]) (by kernel_rfl) (allOk_cons (L := mkL N19_0 f19_0_sh (f19_0_F N)) rfl (lok19_0 N hΓ) trivial))
theorem f19_raw_eq {R : Type} (N : Nat) (xs : List Int) (x : List Int) (k : List DV → Option R) : call (E19 N) S19 22 B19 R19 [.lst (.one .u8) 32 xs, .v (.one (.ints .u8 32 x))] k = f19_raw N xs x k := by kernel_rfl
end Go.Proofs.Ytogcijgklnfjjaa

/- What rime/rimelaw07.num comes to. MADE BY PROGRAM (wip/tools/mkfn.py, EngGen.lean). -/
namespace Go.Proofs.Ytogcijgklnfjjaa
open Go Go.Eng
set_option maxRecDepth 100000
set_option linter.unusedVariables false

noncomputable def f12_raw {R : Type} (N : Nat) (x : Int) (k : List DV → Option R) : Option R :=
 k [DV.v (SV.one (At.int IntKind.i64 x))]


noncomputable def E12 (N : Nat) : Env := { Θ := Th, Γ := [], K := K12, ν := N12, fuel := 0, lp := [] }


theorem f12_contract (N : Nat) (hΓ : CtxOk Try.prog []) : Contract Try.prog 12 { sig := S12, impl := fun _ ds k => call (E12 N) S12 4 B12 R12 ds k } :=
  call_contract (E := E12 N) thOk hΓ mixed ok12.look ok12.body ok12.n ok12.rv ok12.name rfl (by decide) (loopsOk_of (l := []) (by kernel_rfl) trivial)
theorem f12_raw_eq {R : Type} (N : Nat) (x : Int) (k : List DV → Option R) : call (E12 N) S12 4 B12 R12 [.v (.one (.int .i64 x))] k = f12_raw N x k := by kernel_rfl
end Go.Proofs.Ytogcijgklnfjjaa

/- What rime/shamir.may comes to. MADE BY PROGRAM (wip/tools/mkfn.py, EngGen.lean). -/
namespace Go.Proofs.Ytogcijgklnfjjaa
open Go Go.Eng
set_option maxRecDepth 100000
set_option linter.unusedVariables false

noncomputable def f43_raw {R : Type} (N : Nat) (x : Int) (k : List DV → Option R) : Option R :=
 bif Decidable.decide (x ≥ 1) then
 let v0 : Bool := bif Bool.true then Decidable.decide (x ≤ 255) else Bool.false;
 k [DV.v (SV.one (At.bool v0))]
else k [DV.v (SV.one (At.bool Bool.false))]


noncomputable def E43 (N : Nat) : Env := { Θ := Th, Γ := [], K := K43, ν := N43, fuel := 0, lp := [] }


theorem f43_contract (N : Nat) (hΓ : CtxOk Try.prog []) : Contract Try.prog 43 { sig := S43, impl := fun _ ds k => call (E43 N) S43 9 B43 R43 ds k } :=
  call_contract (E := E43 N) thOk hΓ mixed ok43.look ok43.body ok43.n ok43.rv ok43.name rfl (by decide) (loopsOk_of (l := []) (by kernel_rfl) trivial)
theorem f43_raw_eq {R : Type} (N : Nat) (x : Int) (k : List DV → Option R) : call (E43 N) S43 9 B43 R43 [.v (.one (.int .i64 x))] k = f43_raw N x k := by kernel_rfl
end Go.Proofs.Ytogcijgklnfjjaa

/- shamir: places; the value of a polynomial. -/
namespace Go.Proofs.Ytogcijgklnfjjaa
open Go Go.Eng
set_option maxRecDepth 100000
set_option linter.unusedVariables false

/-- Horner from the top: i coefficients are left -/
noncomputable def horN (xs : List Int) (v : Nat) : Nat → Nat → Nat
  | 0, r => r
  | i + 1, r => horN xs v i (addN (mulN r v) (vS (elF xs i)))
noncomputable def evN (xs : List Int) (v : Nat) : Nat := horN xs v (xs.length / 32) 0
theorem horN_lt (xs : List Int) (v : Nat) : ∀ i r, r < ell → horN xs v i r < ell
  | 0, r, h => h
  | i + 1, r, h => horN_lt xs v i _ (addN_lt _ _)
theorem evN_lt (xs : List Int) (v : Nat) : evN xs v < ell := horN_lt xs v _ 0 ell_pos
theorem b_zero' : List.replicate 32 (0 : Int) = sN 0 := by rw [sN_def]; decide

theorem f19_loop {R : Type} (N : Nat) (k1 : Bool → Int → List Int → List Int → List Int → List Int → Option R) {xs x : List Int} (hx : okF xs = true) (ho : okB x = true) (z : List Int) :
    ∀ i : Nat, i ≤ xs.length / 32 → ∀ fuel r, i < fuel → r < ell → f19_0_lp N k1 fuel ((i : Int) - 1) xs x z (sN r) = k1 false (-1) xs x z (sN (horN xs (vS x) i r)) := by
  have hb := okF_n hx
  intro i
  induction i with
  | zero =>
    intro _ fuel r hf hr
    obtain ⟨f, rfl⟩ : ∃ f, fuel = f + 1 := ⟨fuel - 1, by omega⟩
    show f19_0_st N (f19_0_lp N k1 f) k1 (-1) _ _ _ _ = _
    unfold f19_0_st
    rw [decide_eq_false (show ¬ ((-1 : Int) ≥ 0) by decide), cond_false]
    rfl
  | succ i ih =>
    intro hi fuel r hf hr
    obtain ⟨f, rfl⟩ : ∃ f, fuel = f + 1 := ⟨fuel - 1, by omega⟩
    rw [show ((i + 1 : Nat) : Int) - 1 = (i : Int) by omega]
    show f19_0_st N (f19_0_lp N k1 f) k1 _ _ _ _ _ = _
    unfold f19_0_st
    have o1 := okF_el hx (i := i) (by omega)
    rw [rows32 hx]
    dsimp only
    rw [show mulE (Int.toNat (i : Int)) 32 = i * 32 from rfl, show List.take 32 (List.drop (i * 32) xs) = elF xs i from rfl, o1, ho, okB_sN, vS_sN hr, decide_eq_true (show (i : Int) ≥ 0 by omega), decide_eq_true (show (i : Int) < ((xs.length / 32 : Nat) : Int) by omega), wrapI (a := (i : Int) - 1) (by omega) (by omega)]
    simp only [Bool.and_self, cond_true]
    rw [ih (by omega) f _ (by omega) (addN_lt _ _)]
    rfl
noncomputable def I19 : (R : Type) → List DV → (List DV → Option R) → Option R := fun _ ds k => match ds with
  | [.lst (.one .u8) 32 xs, .v (.one (.ints .u8 32 x))] => bif okF xs && okB x then k [.v (.one (.ints .u8 32 (sN (evN xs (vS x)))))] else none
  | _ => none
theorem c19 : Contract Try.prog 19 { sig := S19, impl := I19 } := by
  refine Contract.refine fun R ds k r h => ?_
  unfold I19 at h
  split at h
  · rename_i xs x
    refine ⟨_, f19_contract (xs.length / 32 + 1) GY_ok, ?_⟩
    rcases hc : okF xs && okB x with _ | _
    · rw [hc] at h; cases h
    · rw [hc, cond_true] at h
      rw [Bool.and_eq_true] at hc
      have hb := okF_n hc.1
      rw [f19_raw_eq]
      unfold f19_raw
      dsimp only
      rw [rows32 hc.1, wrapI (a := ((xs.length / 32 : Nat) : Int) - 1) (by omega) (by omega)]
      have := f19_loop (xs.length / 32 + 1) (fun w1_1 w1_2 w1_3 w1_4 w1_5 w1_6 => k [DV.v (SV.one (At.ints IntKind.u8 32 w1_6))]) hc.1 hc.2 (List.replicate 32 0) (xs.length / 32) (Nat.le_refl _) (xs.length / 32 + 1) 0 (by omega) ell_pos
      rw [← b_zero'] at this
      exact this.trans h
  · exact (Option.some_ne_none _ h.symm).elim

/-! ### places -/
noncomputable def plN (x : Int) : Nat := (IntKind.u64.wrap x).toNat
theorem okU_wrap (x : Int) : okU (IntKind.u64.wrap x) = true := by
  unfold okU IntKind.wrap
  simp only [IntKind.bits, IntKind.signed, Bool.false_and, Bool.false_eq_true, if_false, show (2 : Int) ^ 64 = 18446744073709551616 by decide]
  rw [Bool.and_eq_true]
  exact ⟨decide_eq_true (by omega), decide_eq_true (by omega)⟩
noncomputable def I40 : (R : Type) → List DV → (List DV → Option R) → Option R := fun _ ds k => match ds with
  | [.v (.one (.int .i64 x))] => k [.v (.one (.ints .u8 32 (sN (plN x))))]
  | _ => none
theorem c40 : Contract Try.prog 40 { sig := S40, impl := I40 } := by
  refine Contract.refine fun R ds k r h => ⟨_, f40_contract 0 GY_ok, ?_⟩
  unfold I40 at h
  split at h
  · rw [f40_raw_eq]
    unfold f40_raw
    dsimp only
    rw [okU_wrap, cond_true]
    exact h
  · cases h
theorem c17 : Contract Try.prog 17 { sig := S17, impl := I40 } := by
  refine Contract.refine fun R ds k r h => ⟨_, f17_contract 0 GRX_ok, ?_⟩
  unfold I40 at h
  split at h
  · rw [f17_raw_eq]
    unfold f17_raw
    dsimp only
    rw [okU_wrap, cond_true]
    exact h
  · cases h
end Go.Proofs.Ytogcijgklnfjjaa

/- The same scalars. -/
namespace Go.Proofs.Ytogcijgklnfjjaa
open Go Go.Eng
set_option maxRecDepth 100000
set_option linter.unusedVariables false

theorem drop_row {a : List Int} {i : Nat} : a.drop (i * 32) = List.take 32 (List.drop (i * 32) a) ++ a.drop ((i + 1) * 32) := by
  rw [Nat.succ_mul, ← List.drop_drop, List.take_append_drop]

theorem same_loopF {R : Type} {N : Nat} (k1 : Bool → Option R) (a b : List Int) {n : Nat} (ha : a.length = n * 32) (hb : b.length = n * 32) (hn : n ≤ 33554437) :
    ∀ (m i : Nat), i + m = n → ∀ fuel, m < fuel → f11_0_lp N (fun y _ _ _ _ _ => k1 y) (fun _ _ _ _ => k1 true) fuel (i : Int) a b = k1 (decide (a.drop (i * 32) = b.drop (i * 32))) := by
  have ea : rowLen 32 a = n := by show a.length / 32 = n; omega
  have eb : rowLen 32 b = n := by show b.length / 32 = n; omega
  intro m
  induction m with
  | zero =>
    intro i h fuel hf
    obtain ⟨f, rfl⟩ : ∃ f, fuel = f + 1 := ⟨fuel - 1, by omega⟩
    have : i = n := by omega
    subst this
    show f11_0_st N (f11_0_lp N _ _ f) _ _ _ a b = _
    unfold f11_0_st
    rw [ea, show decide (((i : Nat) : Int) < nI i) = false by simp, cond_false]
    rw [List.drop_of_length_le (by omega), List.drop_of_length_le (by omega)]
    simp
  | succ m ih =>
    intro i h fuel hf
    obtain ⟨f, rfl⟩ : ∃ f, fuel = f + 1 := ⟨fuel - 1, by omega⟩
    show f11_0_st N (f11_0_lp N _ _ f) _ _ _ a b = _
    unfold f11_0_st
    have h1 : decide ((i : Int) < nI n) = true := decide_eq_true (show (i : Int) < (n : Int) by omega)
    have h4 : IntKind.i64.wrap ((i : Int) + 1) = ((i + 1 : Nat) : Int) := by rw [show (i : Int) + 1 = ((i + 1 : Nat) : Int) by omega]; exact wi64 (by omega)
    have hm32 : mulE ((i : Int)).toNat 32 = i * 32 := by rw [Int.toNat_natCast]; rfl
    rw [ea, eb, h1, decide_eq_true (show (0 : Int) ≤ (i : Int) by omega), Bool.true_and, cond_true]
    dsimp only
    have hd : decide (a.drop (i * 32) = b.drop (i * 32)) = decide (List.take 32 (List.drop (i * 32) a) ++ a.drop ((i + 1) * 32) = List.take 32 (List.drop (i * 32) b) ++ b.drop ((i + 1) * 32)) := by rw [← drop_row, ← drop_row]
    rw [h4, hm32, ih (i + 1) (by omega) f (by omega), hd]
    by_cases hx : List.take 32 (List.drop (i * 32) a) = List.take 32 (List.drop (i * 32) b)
    · rw [hx, decide_eq_true rfl]
      simp only [Bool.not_true, cond_true, cond_false]
      congr 1
      exact decide_eq_decide.2 ⟨fun e => by rw [e], fun e => List.append_cancel_left e⟩
    · rw [decide_eq_false hx]
      have : decide (List.take 32 (List.drop (i * 32) a) ++ List.drop ((i + 1) * 32) a = List.take 32 (List.drop (i * 32) b) ++ List.drop ((i + 1) * 32) b) = false := by
        refine decide_eq_false fun e => hx ?_
        have := List.append_inj_left e (by simp only [List.length_take, List.length_drop]; omega)
        exact this
      rw [this]; rfl

noncomputable def I11 : (R : Type) → List DV → (List DV → Option R) → Option R := fun _ ds k => match ds with
  | [.lst (.one .u8) 32 a, .lst (.one .u8) 32 b] => bif okF a && okF b then k [.v (.one (.bool (decide (a = b))))] else none
  | _ => none
theorem c11 : Contract Try.prog 11 { sig := S11, impl := I11 } := by
  refine Contract.refine fun R ds k r h => ?_
  unfold I11 at h
  split at h
  · rename_i a b
    refine ⟨_, f11_contract (a.length / 32 + 1) ctxOk_nil, ?_⟩
    rw [f11_raw_eq]
    cases hc : okF a && okF b with
    | true =>
      rw [hc] at h
      rw [Bool.and_eq_true] at hc
      obtain ⟨a1, a2⟩ := okF_n hc.1
      obtain ⟨b1, b2⟩ := okF_n hc.2
      unfold f11_raw
      have ea : rowLen 32 a = a.length / 32 := rfl
      have eb : rowLen 32 b = b.length / 32 := rfl
      by_cases hl : a.length / 32 = b.length / 32
      · rw [show (nI (rowLen 32 a) != nI (rowLen 32 b)) = false by rw [ea, eb, hl]; simp]
        have := same_loopF (N := a.length / 32 + 1) (fun y => k [DV.v (SV.one (At.bool y))]) a b a1 (by rw [hl]; exact b1) (by omega) (a.length / 32) 0 (by omega) (a.length / 32 + 1) (by omega)
        exact this.trans (by simpa using h)
      · rw [show (nI (rowLen 32 a) != nI (rowLen 32 b)) = true by rw [ea, eb, bne_iff_ne]; exact fun e => hl (Int.ofNat_inj.1 e)]
        rw [show decide (a = b) = false by simp; intro e; exact hl (by rw [e])] at h
        exact h
    | false => rw [hc] at h; cases h
  · exact (Option.some_ne_none _ h.symm).elim


end Go.Proofs.Ytogcijgklnfjjaa

/- The document's word on a list of identifiers. -/
namespace Go.Proofs.Ytogcijgklnfjjaa
open Go Go.Eng
set_option maxRecDepth 100000
set_option linter.unusedVariables false

/-- does the i-th stand among those from k on? -/
def dupF (xs : List Int) (i : Nat) : Nat → Nat → Bool
  | 0, _ => false
  | m + 1, k => (xs.getD k 0 == xs.getD i 0) || dupF xs i m (k + 1)
def idsE (xs : List Int) : Nat → Nat → Int
  | 0, _ => 0
  | j + 1, i => bif decide (xs.getD i 0 < 1) || decide (xs.getD i 0 > 255) then 4 else bif dupF xs i i 0 then 5 else idsE xs j (i + 1)
def idsN (xs : List Int) : Int := bif Nat.beq xs.length 0 then 8 else idsE xs xs.length 0
theorem rows1 (xs : List Int) : nI (rowLen 1 xs) = (xs.length : Int) := rfl

theorem f18_in {R : Type} (N : Nat) (K : Int → Option R) (G : Int → List Int → Option R) {xs : List Int} {i : Nat} (hi : i < xs.length) (hb : xs.length ≤ 1073741824) :
    ∀ m k : Nat, k + m = i → ∀ fuel, m < fuel → f18_2_lp N (fun w1 _ _ _ _ _ => K w1) (fun _ w2 _ w4 => G w2 w4) fuel (i : Int) (k : Int) xs = bif dupF xs i m k then K 5 else G (i : Int) xs := by
  intro m
  induction m with
  | zero =>
    intro k h fuel hf
    obtain ⟨f, rfl⟩ : ∃ f, fuel = f + 1 := ⟨fuel - 1, by omega⟩
    show f18_2_st N (f18_2_lp N _ _ f) _ _ _ _ _ = _
    unfold f18_2_st
    rw [decide_eq_false (by omega), cond_false]
    rfl
  | succ m ih =>
    intro k h fuel hf
    obtain ⟨f, rfl⟩ : ∃ f, fuel = f + 1 := ⟨fuel - 1, by omega⟩
    show f18_2_st N (f18_2_lp N _ _ f) _ _ _ _ _ = _
    unfold f18_2_st
    have e4 : IntKind.i64.wrap ((k : Int) + 1) = ((k + 1 : Nat) : Int) := by
      rw [show (k : Int) + 1 = ((k + 1 : Nat) : Int) by omega]; exact wi64 (by omega)
    rw [rows1]
    dsimp only
    rw [show mulE (Int.toNat (k : Int)) 1 = k from rfl, show mulE (Int.toNat (i : Int)) 1 = i from rfl, e4, decide_eq_true (show (k : Int) < (i : Int) by omega), decide_eq_true (show (0 : Int) ≤ (k : Int) by omega), decide_eq_true (show (k : Int) < (xs.length : Int) by omega), decide_eq_true (show (0 : Int) ≤ (i : Int) by omega), decide_eq_true (show (i : Int) < (xs.length : Int) by omega)]
    simp only [Bool.and_self, cond_true]
    rw [dupF]
    cases hq : xs.getD k 0 == xs.getD i 0 with
    | true => rfl
    | false =>
      rw [cond_false, Bool.false_or]
      exact ih (k + 1) (by omega) f (by omega)
theorem f18_out {R : Type} {N : Nat} (K : Int → Option R) {xs : List Int} (hb : xs.length ≤ 1073741824) (hN : xs.length < N) :
    ∀ j i : Nat, i + j = xs.length → ∀ fuel, j < fuel → f18_0_lp N (fun w1 _ _ _ _ => K w1) (fun w1 _ _ _ _ _ => K w1) (fun _ _ _ => K 0) fuel (i : Int) xs = K (idsE xs j i) := by
  intro j
  induction j with
  | zero =>
    intro i h fuel hf
    obtain ⟨f, rfl⟩ : ∃ f, fuel = f + 1 := ⟨fuel - 1, by omega⟩
    show f18_0_st N (f18_0_lp N _ _ _ f) _ _ _ _ _ = _
    unfold f18_0_st
    rw [rows1, decide_eq_false (by omega), cond_false]
    rfl
  | succ j ih =>
    intro i h fuel hf
    obtain ⟨f, rfl⟩ : ∃ f, fuel = f + 1 := ⟨fuel - 1, by omega⟩
    show f18_0_st N (f18_0_lp N _ _ _ f) _ _ _ _ _ = _
    unfold f18_0_st
    have hin := f18_in N K (fun w2 w4 => f18_0_lp N (fun w1 _ _ _ _ => K w1) (fun w1 _ _ _ _ _ => K w1) (fun _ _ _ => K 0) f (IntKind.i64.wrap (w2 + 1)) w4) (xs := xs) (i := i) (by omega) hb i 0 (by omega) N (by omega)
    have e4 : IntKind.i64.wrap ((i : Int) + 1) = ((i + 1 : Nat) : Int) := by
      rw [show (i : Int) + 1 = ((i + 1 : Nat) : Int) by omega]; exact wi64 (by omega)
    rw [rows1]
    dsimp only
    rw [show mulE (Int.toNat (i : Int)) 1 = i from rfl, decide_eq_true (show (0 : Int) ≤ (i : Int) by omega), decide_eq_true (show (i : Int) < (xs.length : Int) by omega)]
    simp only [Bool.and_self, cond_true, cond_false]
    rw [idsE]
    cases h1 : decide (xs.getD i 0 < 1) with
    | true => rfl
    | false =>
      rw [cond_false, Bool.false_or]
      cases h2 : decide (xs.getD i 0 > 255) with
      | true => rfl
      | false =>
        rw [cond_false, cond_false]
        refine hin.trans ?_
        rw [e4]
        cases dupF xs i i 0 with
        | true => rfl
        | false => exact ih (i + 1) (by omega) f (by omega)
noncomputable def I18 : (R : Type) → List DV → (List DV → Option R) → Option R := fun _ ds k => match ds with
  | [.lst (.one .i64) 1 xs] => bif Nat.ble xs.length 1073741824 then k [.v (.one (.int .i64 (idsN xs)))] else none
  | _ => none
theorem c18 : Contract Try.prog 18 { sig := S18, impl := I18 } := by
  refine Contract.refine fun R ds k r h => ?_
  unfold I18 at h
  split at h
  · rename_i xs
    refine ⟨_, f18_contract (xs.length + 1) ctxOk_nil, ?_⟩
    cases hc : Nat.ble xs.length 1073741824 with
    | false => rw [hc] at h; cases h
    | true =>
      rw [hc, cond_true] at h
      have hb := Nat.le_of_ble_eq_true hc
      rw [f18_raw_eq]
      unfold f18_raw
      unfold idsN at h
      rw [rows1]
      cases hq : Nat.beq xs.length 0 with
      | true =>
        rw [hq] at h
        rw [Nat.eq_of_beq_eq_true hq]
        exact h
      | false =>
        rw [hq, cond_false] at h
        have hq : xs.length ≠ 0 := fun e => by rw [e] at hq; cases hq
        rw [show (((xs.length : Nat) : Int) == 0) = false by simp; intro e; exact hq (by rw [e]; rfl), cond_false]
        exact (f18_out (N := xs.length + 1) (fun w => k [DV.v (SV.one (At.int IntKind.i64 w))]) hb (by omega) xs.length 0 (by omega) (xs.length + 1) (by omega)).trans h
  · exact (Option.some_ne_none _ h.symm).elim
end Go.Proofs.Ytogcijgklnfjjaa

/- InvertAll's contract, as the engine likes it: a choice by a truth value. -/
namespace Go.Proofs.Ytogcijgklnfjjaa
open Go Go.Eng
set_option maxRecDepth 100000

noncomputable def hasZ (x : List Int) : Bool := (fz x (x.length / 32) 0).isSome
noncomputable def firstZ (x : List Int) : Int := (((fz x (x.length / 32) 0).getD 0 : Nat) : Int)
noncomputable def I77b : (R : Type) → List DV → (List DV → Option R) → Option R := fun _ ds k => match ds with
  | [.lst (.one .u8) 32 x] => bif okF x then (bif hasZ x then k [.lst (.one .u8) 32 [], .v (.one (.int .i64 9)), .v (.one (.int .i64 (firstZ x)))] else k [.lst (.one .u8) 32 (invS x), .v (.one (.int .i64 0)), .v (.one (.int .i64 0))]) else none
  | _ => none
theorem c77b : Contract Try.prog 77 { sig := S77, impl := I77b } := by
  refine Contract.refine fun R ds k r h => ⟨_, c77, ?_⟩
  unfold I77b at h
  unfold I77
  split at h
  · rename_i x
    show (bif okF x then _ else none) = some r
    cases hc : okF x with
    | false => rw [hc] at h; cases h
    | true =>
      rw [hc, cond_true] at h
      rw [cond_true]
      unfold hasZ firstZ at h
      cases hz : fz x (x.length / 32) 0 with
      | some m => rw [hz] at h; exact h
      | none => rw [hz] at h; exact h
  · cases h
noncomputable def GZ : Ctx := (76, { sig := S76, impl := I76 }) :: (77, { sig := S77, impl := I77b }) :: GX
theorem GZ_ok : CtxOk Try.prog GZ := ctxOk_cons ok76 rfl c76 (ctxOk_cons ok77 rfl c77b GX_ok)
end Go.Proofs.Ytogcijgklnfjjaa

/- The engine: what a piece of code does not look at stays as it is. -/
namespace Go.Eng
open Go

def partI (K : List Nat) : List (Nat × Item) → List (Nat × Item)
  | [] => []
  | (n, it) :: l => match memN n K with | true => (n, it) :: partI K l | false => partI K l
def partO (K : List Nat) : List (Nat × Item) → List (Nat × Item)
  | [] => []
  | (n, it) :: l => match memN n K with | true => partO K l | false => (n, it) :: partO K l

theorem find_partI {K : List Nat} {n : Nat} : ∀ {l : List (Nat × Item)}, findI n (partI K l) = if n ∈ K then findI n l else none
  | [] => by simp [partI, findI]
  | (u, it) :: l => by
    simp only [partI]
    split
    · rename_i h
      rw [findI_cons, findI_cons, find_partI (l := l)]
      by_cases e : n = u
      · subst e; simp [memN_iff.1 h]
      · simp [e]
    · rename_i h
      rw [findI_cons, find_partI (l := l)]
      by_cases e : n = u
      · subst e; simp [memN_false.1 h]
      · simp [e]
theorem find_partO {K : List Nat} {n : Nat} : ∀ {l : List (Nat × Item)}, findI n (partO K l) = if n ∈ K then none else findI n l
  | [] => by simp [partO, findI]
  | (u, it) :: l => by
    simp only [partO]
    split
    · rename_i h
      rw [findI_cons, find_partO (l := l)]
      by_cases e : n = u
      · subst e; simp [memN_iff.1 h]
      · simp [e]
    · rename_i h
      rw [findI_cons, findI_cons, find_partO (l := l)]
      by_cases e : n = u
      · subst e; simp [memN_false.1 h]
      · simp [e]
theorem names_partI {K : List Nat} {n : Nat} : ∀ {l : List (Nat × Item)}, n ∈ putNames (partI K l) → n ∈ putNames l ∧ n ∈ K
  | [], h => by cases h
  | (u, it) :: l, h => by
    simp only [partI] at h
    split at h
    · rename_i hk
      rcases List.mem_cons.1 h with e | h
      · subst e; exact ⟨.head _, memN_iff.1 hk⟩
      · have := names_partI h; exact ⟨.tail _ this.1, this.2⟩
    · have := names_partI h; exact ⟨.tail _ this.1, this.2⟩
theorem names_partO {K : List Nat} {n : Nat} : ∀ {l : List (Nat × Item)}, n ∈ putNames (partO K l) → n ∈ putNames l ∧ n ∉ K
  | [], h => by cases h
  | (u, it) :: l, h => by
    simp only [partO] at h
    split at h
    · have := names_partO h; exact ⟨.tail _ this.1, this.2⟩
    · rename_i hk
      rcases List.mem_cons.1 h with e | h
      · subst e; exact ⟨.head _, memN_false.1 hk⟩
      · have := names_partO h; exact ⟨.tail _ this.1, this.2⟩
theorem nodup_partI {K : List Nat} : ∀ {l : List (Nat × Item)}, Nodup' l → Nodup' (partI K l)
  | [], _ => trivial
  | (u, it) :: l, ⟨h1, h2⟩ => by
    simp only [partI]
    split
    · exact ⟨fun h => h1 (names_partI h).1, nodup_partI h2⟩
    · exact nodup_partI h2
theorem nodup_partO {K : List Nat} : ∀ {l : List (Nat × Item)}, Nodup' l → Nodup' (partO K l)
  | [], _ => trivial
  | (u, it) :: l, ⟨h1, h2⟩ => by
    simp only [partO]
    split
    · exact nodup_partO h2
    · exact ⟨fun h => h1 (names_partO h).1, nodup_partO h2⟩

/-- values that may stand beside what stays -/
def sideA (Fr : List (Nat × Item)) : At → Bool
  | .ptr n b o z => match findI n Fr with
    | none => true
    | some it => match o, it with | .z, .obj _ => true | _, _ => false
  | a => disj a.names (putNames Fr)
def sideV (Fr : List (Nat × Item)) : AV → Bool
  | .s (.one a) => sideA Fr a
  | v => disj v.names (putNames Fr)
def sideT (Fr : List (Nat × Item)) : List (Nat × AV) → Bool
  | [] => true
  | (_, v) :: l => sideV Fr v && sideT Fr l
/-- what is not its own was there before -/
def sideI (lo : Nat) (is : List (Nat × Item)) : List (Nat × Item) → Bool
  | [] => true
  | (n, it) :: l => (match it.own? with | true => true | false => memN n (putNames is) && (Nat.blt n lo || Nat.ble hiN n)) && sideI lo is l

def pinsN (lo : Nat) : List Nat → Bool
  | [] => true
  | n :: l => (Nat.blt n lo || Nat.ble hiN n) && pinsN lo l

theorem pinsN_mem {lo n : Nat} : ∀ {l : List Nat}, pinsN lo l = true → n ∈ l → n < lo ∨ hiN ≤ n
  | m :: l, h, hm => by
    simp only [pinsN, Bool.and_eq_true, Bool.or_eq_true] at h
    rcases List.mem_cons.1 hm with e | hm
    · subst e
      rcases h.1 with h | h
      · left
        have := ble_iff.1 (show Nat.ble (n + 1) lo = true from h); omega
      · right; exact ble_iff.1 h
    · exact pinsN_mem h.2 hm

theorem sideT_mem {Fr : List (Nat × Item)} {t : Nat} {v : AV} : ∀ {l : List (Nat × AV)}, sideT Fr l = true → (t, v) ∈ l → sideV Fr v = true
  | (u, x) :: l, h, hm => by
    simp only [sideT, Bool.and_eq_true] at h
    rcases List.mem_cons.1 hm with e | hm
    · injection e with e1 e2; subst e2; exact h.1
    · exact sideT_mem h.2 hm
theorem sideI_mem {lo : Nat} {is : List (Nat × Item)} {n : Nat} {it : Item} : ∀ {l : List (Nat × Item)}, sideI lo is l = true → (n, it) ∈ l → it.owned = false → n ∈ putNames is ∧ (n < lo ∨ hiN ≤ n)
  | (u, x) :: l, h, hm, ho => by
    simp only [sideI, Bool.and_eq_true] at h
    rcases List.mem_cons.1 hm with e | hm
    · injection e with e1 e2; subst e1; subst e2
      have h1 := h.1
      cases it with
      | view k es xs =>
        simp only [Item.own?, Bool.and_eq_true, Bool.or_eq_true] at h1
        refine ⟨memN_iff.1 h1.1, ?_⟩
        rcases h1.2 with h | h
        · left
          have := ble_iff.1 (show Nat.ble (n + 1) lo = true from h); omega
        · right; exact ble_iff.1 h
      | dview k es xs =>
        simp only [Item.own?, Bool.and_eq_true, Bool.or_eq_true] at h1
        refine ⟨memN_iff.1 h1.1, ?_⟩
        rcases h1.2 with h | h
        · left
          have := ble_iff.1 (show Nat.ble (n + 1) lo = true from h); omega
        · right; exact ble_iff.1 h
      | _ => cases ho
    · exact sideI_mem h.2 hm ho

theorem nodup_apart {l m : List (Nat × Item)} : Nodup' (l ++ m) → Nodup' l ∧ Nodup' m ∧ ∀ n ∈ putNames l, n ∉ putNames m := by
  induction l with
  | nil => intro h; exact ⟨trivial, h, by simp [putNames]⟩
  | cons x l ih =>
    obtain ⟨u, v⟩ := x
    rintro ⟨h1, h2⟩
    obtain ⟨g1, g2, g3⟩ := ih h2
    have h1 : u ∉ putNames (l ++ m) := h1
    rw [putNames_append, List.mem_append, not_or] at h1
    refine ⟨⟨h1.1, g1⟩, g2, fun n hn => ?_⟩
    rcases List.mem_cons.1 hn with e | hn
    · subst e; exact h1.2
    · exact g3 n hn

theorem find_app {l m : List (Nat × Item)} {n : Nat} {it : Item} (h : findI n (l ++ m) = some it) : findI n l = some it ∨ (findI n l = none ∧ findI n m = some it) := by
  rw [findI_append] at h
  cases hl : findI n l with
  | some x => rw [hl] at h; exact .inl h
  | none => rw [hl] at h; exact .inr ⟨rfl, h⟩

theorem none_of {l : List (Nat × Item)} {n : Nat} (h : findI n l = none) : n ∉ putNames l := findI_none_iff.1 h

theorem find_names {l : List (Nat × Item)} {n : Nat} {it : Item} (h : findI n l = some it) : n ∈ putNames l := putNames_iff.2 ⟨it, findI_mem h⟩

theorem reaches_frame {P : Program} {c : Code} {s1 s' : AS} {e : X} (h : Reaches P c s1 e s') {Fr : List (Nat × Item)} (hlo : s'.lo = s1.lo) (hnd : Nodup' (s1.items ++ Fr)) (hnd' : Nodup' (s'.items ++ Fr))
    (hpin : pinsN s1.lo (putNames Fr) = true) (hcl : allIn (putSays' Fr) (putNames Fr) = true) (ht : sideT Fr s'.tmps = true) (hi : disj (putSays' s'.items) (putNames Fr) = true) (hv : sideI s'.lo s1.items s'.items = true) :
    Reaches P c { s1 with items := s1.items ++ Fr } e { s' with items := s'.items ++ Fr } := by
  refine reaches_iff.2 fun w0 Mu ρ a w Q hs hQ => ?_
  obtain ⟨n1, n2, n3⟩ := nodup_apart hnd
  obtain ⟨n1', n2', n3'⟩ := nodup_apart hnd'
  rw [disj_iff] at hi
  rw [allIn_iff] at hcl
  -- the whole at the start
  have hI1 : ∀ n it, s1.I n = some it → AS.I { s1 with items := s1.items ++ Fr } n = some it := by
    intro n it h
    show findI n (s1.items ++ Fr) = some it
    rw [findI_append, show findI n s1.items = some it from h]
  have hIF : ∀ n it, findI n Fr = some it → AS.I { s1 with items := s1.items ++ Fr } n = some it := by
    intro n it h
    show findI n (s1.items ++ Fr) = some it
    rw [findI_append, findI_none (fun hm => n3 n hm (find_names h))]; exact h
  have hS1 : ∀ n, s1.S n = AS.S { s1 with items := s1.items ++ Fr } n ∨ s1.S n = none := by
    intro n
    unfold AS.S
    cases hh : s1.I n with
    | none => exact .inr rfl
    | some it => left; rw [hI1 n it hh]
  let Mu1 : MuT := { blk := fun b => ∃ n it p, s1.I n = some it ∧ it.owned = true ∧ ρ.loc n = some p ∧ p.1 = b, loc := ρ.loc, tot := ρ.tot, sh := s1.S, out := ρ.out }
  have hs1 : Sim w Mu1 ρ s1 a w := by
    refine ⟨hs.defers, n1, hs.size, ?_, ?_, ?_, ?_, ?_, Nat.le_refl _, fun _ _ _ => rfl, fun n _ => ⟨rfl, rfl, .inl rfl⟩, ⟨rfl, rfl⟩, fun b hb => ⟨Nat.lt_of_lt_of_le (hs.out b hb).1 hs.mono, ?_⟩, rfl⟩
    · intro t
      exact (hs.rel t).frame fun n _ => ⟨rfl, rfl, hS1 n⟩
    · intro n it hh
      exact (hs.hold n it (hI1 n it hh)).frame ⟨rfl, rfl⟩ (fun m _ => ⟨rfl, rfl, hS1 m⟩) (fun _ _ => rfl) (fun b hb => ⟨hb, rfl⟩)
    · intro n it p hh ho hp; exact .inr ⟨n, it, p, hh, ho, hp, rfl⟩
    · intro n m it it' p q h1 h2 ho hne hp hq; exact hs.sep n m it it' p q (hI1 _ _ h1) (hI1 _ _ h2) ho hne hp hq
    · intro n it p h1 hp; exact hs.lt n it p (hI1 _ _ h1) hp
    · rintro ⟨n, it, p, k1, k2, k3, k4⟩
      rcases hs.own n it p (hI1 _ _ k1) k2 k3 with h2 | h2
      · have := (hs.out b hb).1; omega
      · exact (hs.out b hb).2 (k4 ▸ h2)
  refine reaches_iff.1 h w Mu1 ρ a w Q hs1 fun a' w' ρ' hs' => hQ a' w' ρ' ?_
  -- the whole at the end
  have hFpin : ∀ n, n ∈ putNames Fr → ρ'.loc n = ρ.loc n ∧ ρ'.tot n = ρ.tot n := by
    intro n hn
    have := hs'.pin n (by rw [hlo]; exact pinsN_mem hpin hn)
    exact ⟨this.1, this.2.1⟩
  have hI' : ∀ n it, AS.I { s' with items := s'.items ++ Fr } n = some it → s'.I n = some it ∨ (n ∉ putNames s'.items ∧ findI n Fr = some it) := by
    intro n it hh
    rcases find_app (show findI n (s'.items ++ Fr) = some it from hh) with h1 | ⟨h1, h2⟩
    · exact .inl h1
    · exact .inr ⟨none_of h1, h2⟩
  have hSout : ∀ n, n ∉ putNames Fr → AS.S { s' with items := s'.items ++ Fr } n = s'.S n := by
    intro n hn
    unfold AS.S
    show (findI n (s'.items ++ Fr)).map Item.shape = (findI n s'.items).map Item.shape
    rw [findI_append]
    cases hh : findI n s'.items with
    | some it => rfl
    | none => rw [findI_none hn]
  have hSin : ∀ n, n ∈ putNames Fr → AS.S { s' with items := s'.items ++ Fr } n = AS.S { s1 with items := s1.items ++ Fr } n := by
    intro n hn
    unfold AS.S
    show (findI n (s'.items ++ Fr)).map Item.shape = (findI n (s1.items ++ Fr)).map Item.shape
    rw [findI_append, findI_append, findI_none (fun hm => n3 n hm hn), findI_none (fun hm => n3' n hm hn)]
  have hne : ∀ n m p q it, n ∈ putNames s1.items → s1.I n = some it → it.owned = true → ρ.loc n = some p → m ∈ putNames Fr → ρ.loc m = some q → p.1 ≠ q.1 := by
    intro n m p q it hn h1 ho hp hm hq
    obtain ⟨it', h2⟩ := putNames_iff.1 hm
    cases hf : findI m Fr with
    | none => exact absurd hm (none_of hf)
    | some jt => exact hs.sep n m it jt p q (hI1 n it h1) (hIF m jt hf) ho (fun e => n3 n hn (e ▸ hm)) hp hq
  have hagree : ∀ n, n ∉ putNames Fr → Agree ρ' ρ' s'.S (AS.S { s' with items := s'.items ++ Fr }) n := fun n hn => ⟨rfl, rfl, .inl (hSout n hn)⟩
  have hFheap : ∀ n q, n ∈ putNames Fr → ρ.loc n = some q → w'.heap[q.1]? = w.heap[q.1]? ∧ q.1 < w.heap.size := by
    intro n q hn hq
    have hlt : q.1 < w.heap.size := by
      cases hf : findI n Fr with
      | none => exact absurd hn (none_of hf)
      | some jt => exact hs.lt n jt q (hIF n jt hf) hq
    refine ⟨hs'.frame q.1 hlt ?_, hlt⟩
    rintro ⟨m, it, p, h1, h2, h3, h4⟩
    exact hne m n p q it (find_names h1) h1 h2 h3 hn hq h4
  refine ⟨hs'.defers, hnd', hs'.size, ?_, ?_, ?_, ?_, ?_, Nat.le_trans hs.mono hs'.mono, ?_, ?_, ?_, fun b hb => hs.out b (show ρ.out b from (show ρ'.out = ρ.out from hs'.outp) ▸ hb), (show ρ'.out = ρ.out from hs'.outp).trans hs.outp⟩
  · intro t
    show RelV ρ' _ (findT t s'.tmps) _
    have hr := hs'.rel t
    rcases findT_mem (t := t) (l := s'.tmps) with e | hm
    · rw [e]; exact relDead _ _ _
    · have hsd := sideT_mem ht hm
      change RelV ρ' s'.S (findT t s'.tmps) _ at hr
      revert hr hsd
      generalize findT t s'.tmps = v
      intro hsd hr
      have plain : disj v.names (putNames Fr) = true → RelV ρ' (AS.S { s' with items := s'.items ++ Fr }) v (a'.tmps.getD t undef) :=
        fun hd => hr.frame fun n hn => hagree n (disj_iff.1 hd n hn)
      unfold sideV at hsd
      split at hsd
      · rename_i at0
        unfold sideA at hsd
        split at hsd
        · rename_i n b o z
          split at hsd
          · rename_i hf
            exact hr.frame fun m hm => by
              have : m = n := by simpa [AV.names, SV.names, At.names] using hm
              subst this; exact hagree m (none_of hf)
          · rename_i it hf
            split at hsd
            · rename_i l
              simp only [RelV, RelSV, RelAt] at hr ⊢
              obtain ⟨p, r1, r2, r3⟩ := hr
              refine ⟨p, r1, r2, ?_⟩
              intro sh hsh L hL
              rw [hSin n (find_names hf)] at hsh
              have : AS.S { s1 with items := s1.items ++ Fr } n = some (Item.obj l).shape := S_of (hIF n _ hf)
              rw [this] at hsh
              injection hsh with hsh
              subst hsh
              intro hc; simp [Item.shape, Shape.isObj] at hc
            · cases hsd
        · exact plain hsd
      · exact plain hsd
  · intro n it hh
    rcases hI' n it hh with h1 | ⟨h1, h2⟩
    · refine (hs'.hold n it h1).frame ⟨rfl, rfl⟩ (fun m hm => hagree m (hi m (putSays'_mem (findI_mem h1) hm))) (fun _ _ => rfl) (fun b hb => ⟨hb, rfl⟩)
    · have hnF := find_names h2
      have hl := hFpin n hnF
      refine (hs.hold n it (hIF n it h2)).frame hl (fun m hm => ?_) (fun p hp => (hFheap n p hnF hp).1) (fun b hb => ⟨(show ρ'.out = ρ.out from hs'.outp).symm ▸ hb, hs'.frame b (Nat.lt_of_lt_of_le (hs.out b hb).1 hs.mono) (hs1.out b hb).2⟩)
      have hmF := hcl m (putSays'_mem (findI_mem h2) hm)
      exact ⟨(hFpin m hmF).1, (hFpin m hmF).2, .inl (hSin m hmF)⟩
  · intro n it p hh ho hp
    rcases hI' n it hh with h1 | ⟨h1, h2⟩
    · rcases hs'.own n it p h1 ho hp with g | ⟨m, jt, q, g1, g2, g3, g4⟩
      · exact .inl (Nat.le_trans hs.mono g)
      · rw [← g4]; exact hs.own m jt q (hI1 m jt g1) g2 g3
    · rw [(hFpin n (find_names h2)).1] at hp
      exact hs.own n it p (hIF n it h2) ho hp
  · intro n m it it' p q hh hh' ho hnm hp hq
    rcases hI' n it hh with h1 | ⟨h1, h2⟩
    · rcases hI' m it' hh' with k1 | ⟨k1, k2⟩
      · exact hs'.sep n m it it' p q h1 k1 ho hnm hp hq
      · have hmF := find_names k2
        rw [(hFpin m hmF).1] at hq
        have hlt := (hFheap m q hmF hq).2
        rcases hs'.own n it p h1 ho hp with g | ⟨n', jt, q', g1, g2, g3, g4⟩
        · omega
        · rw [← g4]; exact hne n' m q' q jt (find_names g1) g1 g2 g3 hmF hq
    · have hnF := find_names h2
      rw [(hFpin n hnF).1] at hp
      rcases hI' m it' hh' with k1 | ⟨k1, k2⟩
      · have hlt := (hFheap n p hnF hp).2
        cases ho' : it'.owned with
        | true =>
          rcases hs'.own m it' q k1 ho' hq with g | ⟨n', jt, q', g1, g2, g3, g4⟩
          · omega
          · rw [← g4]; exact (hne n' n q' p jt (find_names g1) g1 g2 g3 hnF hp).symm
        | false =>
          obtain ⟨hm1, hpm⟩ := sideI_mem hv (findI_mem k1) ho'
          cases hf : findI m s1.items with
          | none => exact absurd hm1 (none_of hf)
          | some jt =>
            have hq' : ρ.loc m = some q := by
              have e : ρ'.loc m = ρ.loc m := (hs'.pin m hpm).1
              rw [← e]; exact hq
            exact hs.sep n m it jt p q (hIF n it h2) (hI1 m jt hf) ho hnm hp hq'
      · rw [(hFpin m (find_names k2)).1] at hq
        exact hs.sep n m it it' p q (hIF n it h2) (hIF m it' k2) ho hnm hp hq
  · intro n it p hh hp
    rcases hI' n it hh with h1 | ⟨h1, h2⟩
    · exact hs'.lt n it p h1 hp
    · rw [(hFpin n (find_names h2)).1] at hp
      exact Nat.lt_of_lt_of_le (hFheap n p (find_names h2) hp).2 hs'.mono
  · intro b hb hnb
    rw [hs'.frame b (Nat.lt_of_lt_of_le hb hs.mono) ?_]
    · exact hs.frame b hb hnb
    · rintro ⟨m, it, p, h1, h2, h3, h4⟩
      rcases hs.own m it p (hI1 m it h1) h2 h3 with g | g
      · omega
      · exact hnb (h4 ▸ g)
  · intro n hn
    have hn' : n < s'.lo ∨ hiN ≤ n := hn
    obtain ⟨g1, g2, g3⟩ := hs'.pin n hn'
    obtain ⟨k1, k2, k3⟩ := hs.pin n (by rw [← hlo]; exact hn')
    refine ⟨g1.trans k1, g2.trans k2, ?_⟩
    by_cases hF : n ∈ putNames Fr
    · rw [hSin n hF]; exact k3
    · rw [hSout n hF]
      rcases g3 with g3 | g3
      · rw [g3]
        rcases hS1 n with e | e
        · change s1.S n = _ ∨ s1.S n = none; rw [e]; exact k3
        · exact .inr e
      · exact .inr g3
  · exact ⟨hs'.still.1.trans hs.still.1, hs'.still.2.trans hs.still.2⟩

/-! ### loops -/

theorem loop_reach {P : Program} {E : Env} (hΘ : TypesOk P E.Θ) (hΓ : CtxOk P E.Γ) (hm : P.follows .mixedOrders = true) {ν : Nrm} {σ : Shp} {id : Nat} {body : Code} {F : (R : Type) → List Leaf → (X → AS → Option R) → Option R}
    (hlp : LoopsOk P E.lp body) (h : ∀ R ls k r, F R ls k = some r → ∃ fuel, roundsOf E ν id body k fuel (fill σ ls) = some r) {R : Type} {ls : List Leaf} {k : X → AS → Option R} {r : R} (hk : F R ls k = some r) :
    ∃ e s', k e s' = some r ∧ Reaches P (.block id (.loop body)) (fill σ ls) e s' := by
  obtain ⟨fuel, hf⟩ := h R ls k r hk
  have hb : ∀ (s : AS) (k : X → AS → Option R) (r : R), exec E body s k = some r → ∃ e s', k e s' = some r ∧ Reaches P body s e s' := (exec_sound hΘ hΓ hm body hlp).1
  obtain ⟨e, s'', h1, h2⟩ := iter_rounds hb _ _ _ hf
  obtain ⟨he, n, hw⟩ := rounds_wp h2
  have hl : ∀ w0 Mu ρ a w (Q : Exit → Act → World → Prop), Sim w0 Mu ρ (fill σ ls) a w → (∀ a' w' ρ', Sim w0 Mu ρ' s'' a' w' → Exit.inBlock id Q e.out a' w') → (Code.block id (.loop body)).wp P Q a w := by
    intro w0 Mu ρ a w Q hs hQ
    exact wp_block (wp_loop_rounds n (hw w0 Mu ρ a w _ hs hQ))
  cases e with
  | normal => exact absurd rfl he
  | ret => exact ⟨.ret, s'', h1, fun w0 Mu ρ a w Q hs hQ => hl w0 Mu ρ a w Q hs hQ⟩
  | exit i =>
    simp only at h1
    split at h1
    · rename_i e
      have e := beqT e; subst e
      refine ⟨.normal, s'', h1, fun w0 Mu ρ a w Q hs hQ => hl w0 Mu ρ a w Q hs fun a' w' ρ' hs' => ?_⟩
      simp only [X.out, Exit.inBlock, if_true]; exact hQ a' w' ρ' hs'
    · rename_i e
      have e := beqN e
      refine ⟨.exit i, s'', h1, fun w0 Mu ρ a w Q hs hQ => hl w0 Mu ρ a w Q hs fun a' w' ρ' hs' => ?_⟩
      simp only [X.out, Exit.inBlock, if_neg e]; exact hQ a' w' ρ' hs'

def extraN (K : List Nat) (lo : Nat) : List (Nat × Item) → List Nat
  | [] => []
  | (n, _) :: l => match (Nat.blt n lo || Nat.ble hiN n) && !(memN n K) with | true => n :: extraN K lo l | false => extraN K lo l

def backOk (Fr is : List (Nat × Item)) (lo : Nat) (s' : AS) : Bool :=
  Nat.beq s'.lo lo && (nodupN (putNames s'.items ++ putNames Fr) && (sideT Fr s'.tmps && (disj (putSays' s'.items) (putNames Fr) && sideI s'.lo is s'.items)))

/-- a loop, from what it makes of the leaves at its head; what else hangs on what was handed in stays -/
def mkLF (ν : Nrm) (σ : Shp) (F : (R : Type) → List Leaf → (X → AS → Option R) → Option R) : LoopFn := fun R s k =>
  match nrm { slots := ν.slots, items := ν.items ++ extraN (ν.items ++ rowNames ν.slots) s.lo s.items } s with
  | some s2 => match proj σ { n := s2.n, lo := s2.lo, tmps := s2.tmps, items := partO (extraN (ν.items ++ rowNames ν.slots) s.lo s.items) s2.items } with
    | some ls => match pinsN s2.lo (putNames (partI (extraN (ν.items ++ rowNames ν.slots) s.lo s.items) s2.items)) && allIn (putSays' (partI (extraN (ν.items ++ rowNames ν.slots) s.lo s.items) s2.items)) (putNames (partI (extraN (ν.items ++ rowNames ν.slots) s.lo s.items) s2.items)) with
      | true => F R ls fun e s' => match backOk (partI (extraN (ν.items ++ rowNames ν.slots) s.lo s.items) s2.items) (partO (extraN (ν.items ++ rowNames ν.slots) s.lo s.items) s2.items) s2.lo s' with
        | true => k e { n := s'.n, lo := s'.lo, tmps := s'.tmps, items := s'.items ++ partI (extraN (ν.items ++ rowNames ν.slots) s.lo s.items) s2.items }
        | false => none
      | false => none
    | none => none
  | none => none

theorem loopOkF_of {P : Program} {E : Env} (hΘ : TypesOk P E.Θ) (hΓ : CtxOk P E.Γ) (hm : P.follows .mixedOrders = true) {ν : Nrm} {σ : Shp} {id : Nat} {body : Code} {F : (R : Type) → List Leaf → (X → AS → Option R) → Option R}
    (hlp : LoopsOk P E.lp body) (h : ∀ R ls k r, F R ls k = some r → ∃ fuel, roundsOf E ν id body k fuel (fill σ ls) = some r) : LoopOk P (mkLF ν σ F) id body := by
  intro R s k r hk
  unfold mkLF at hk
  generalize hX : extraN (ν.items ++ rowNames ν.slots) s.lo s.items = X at hk
  split at hk
  · rename_i s2 hn
    split at hk
    · rename_i ls hp
      split at hk
      · rename_i hb
        rw [Bool.and_eq_true] at hb
        obtain ⟨e, s', h1, h2⟩ := loop_reach hΘ hΓ hm hlp h hk
        rw [proj_fill hp] at h2
        split at h1
        · rename_i hbk
          simp only [backOk, Bool.and_eq_true] at hbk
          obtain ⟨b1, b2, b3, b4, b5⟩ := hbk
          refine ⟨e, _, h1, reaches_iff.2 fun w0 Mu ρ a w Q hs hQ => ?_⟩
          obtain ⟨ρ2, hs2⟩ := hs.nrm hn
          have hnd := hs2.nd
          have hnd2 : Nodup' (partO X s2.items ++ partI X s2.items) := nodup_append (nodup_partO hnd) (nodup_partI hnd) fun n h1 h2 => (names_partO h1).2 (names_partI h2).2
          have heq : Eqv s2 { n := s2.n, lo := s2.lo, tmps := s2.tmps, items := partO X s2.items ++ partI X s2.items } := by
            refine ⟨rfl, rfl, rfl, ?_⟩
            funext n
            show findI n s2.items = findI n (partO X s2.items ++ partI X s2.items)
            rw [findI_append, find_partO, find_partI]
            by_cases h : n ∈ X
            · simp [h]
            · simp only [h, if_false]
              cases findI n s2.items <;> rfl
          have hs3 := hs2.eqv heq hnd2
          refine reaches_iff.1 (reaches_frame h2 (beqT b1) hnd2 (nodup'_of ?_) hb.1 hb.2 b3 b4 b5) w0 Mu ρ2 a w Q hs3 hQ
          rw [putNames_append]; exact nodupN_iff.1 b2
        · cases h1
      · cases hk
    · cases hk
  · cases hk

/-! ### a function that is handed all -/

def svAVs : List SV → List AV
  | [] => []
  | v :: l => .s v :: svAVs l

def retN {R : Type} (Θ : Types) (np : Nat) (rv : List ResultVar) (k : List DV → Option R) (e : X) (s : AS) : Option R :=
  match e with
  | .exit _ => none
  | _ => match Nat.beq s.lo np with
   | false => none
   | true => match resSV Θ s rv with
    | some vs => k [.fr (svAVs vs) s.items]
    | none => none

def callN {R : Type} (E : Env) (np n : Nat) (body : Code) (rv : List ResultVar) (ds : List DV) (k : List DV → Option R) : Option R :=
  match ds with
  | [.fr avs its] => match Nat.beq avs.length np && Nat.ble np n with
    | true => exec E body { n := n, lo := np, tmps := numT 0 avs, items := its } (retN E.Θ np rv k)
    | false => none
  | _ => none

theorem svAVs_length : ∀ {l : List SV}, (svAVs l).length = l.length
  | [] => rfl
  | _ :: l => by simp [svAVs, svAVs_length (l := l)]
theorem svAVs_get : ∀ {l : List SV} {t : Nat}, (svAVs l)[t]? = (l[t]?).map AV.s
  | [], t => rfl
  | v :: l, 0 => rfl
  | v :: l, t + 1 => by simp [svAVs, svAVs_get (l := l)]

theorem inl_contract {P : Program} {E : Env} (hΘ : TypesOk P E.Θ) (hΓ : CtxOk P E.Γ) (hm : P.follows .mixedOrders = true) {g n np : Nat} {fn : Func} {body : Code} {rv : List ResultVar} (ok : FnOk P g fn n body rv) (hlp : LoopsOk P E.lp body) :
    Contract P g { sig := { ps := [], rs := [] }, impl := fun _ ds k => callN E np n body rv ds k, kind := .inl np } := by
  intro R ds k r h
  simp only at h
  unfold callN at h
  split at h
  · rename_i avs its
    split at h
    · rename_i hnp
      rw [Bool.and_eq_true] at hnp
      have hlen := beqT hnp.1
      have hle := ble_iff.1 hnp.2
      obtain ⟨e, s', h1, h2⟩ := (exec_sound hΘ hΓ hm body hlp).1 _ _ _ h
      have key : ∃ vs, (∀ i, e ≠ .exit i) ∧ resSV E.Θ s' rv = some vs ∧ k [.fr (svAVs vs) s'.items] = some r ∧ s'.lo = np := by
        unfold retN at h1
        split at h1
        · cases h1
        · rename_i he
          split at h1
          · cases h1
          · rename_i hlo
            split at h1
            · rename_i vs hvs
              exact ⟨vs, fun i h => he i h, hvs, h1, beqT hlo⟩
            · cases h1
      obtain ⟨vs, he, hvs, hk, hlo⟩ := key
      refine ⟨_, hk, ?_⟩
      intro avs' its' e1
      injection e1 with e1 _; injection e1 with e1 e2; subst e1; subst e2
      refine ⟨_, _, rfl, fun w Mu ρ xs hxl hs0 => ⟨⟨fn, ok.look, by rw [ok.body]; rfl, ok.name⟩, ?_⟩⟩
      have hn := ok.n
      subst hn
      refine calls_of_wp ok.look ok.body ?_
      have hs1 : Sim w Mu ρ { n := fn.ntmps, lo := np, tmps := numT 0 avs, items := its } { tmps := xs.toArray ++ Array.replicate (fn.ntmps - xs.toArray.size) undef, defers := [] } w := by
        refine ⟨rfl, hs0.nd, by simp; omega, ?_, hs0.hold, hs0.own, hs0.sep, hs0.lt, hs0.mono, hs0.frame, hs0.pin, hs0.still, hs0.out, hs0.outp⟩
        intro t
        have hr := hs0.rel t
        by_cases ht : t < xs.length
        · have e : (xs.toArray ++ Array.replicate (fn.ntmps - xs.toArray.size) undef).getD t undef = xs.toArray.getD t undef := by
            rw [Array.getD_eq_getD_getElem?, Array.getElem?_append_left (by simpa using ht), Array.getD_eq_getD_getElem?]
          show RelV ρ _ _ ((xs.toArray ++ Array.replicate (fn.ntmps - xs.toArray.size) undef).getD t undef)
          rw [e]; exact hr
        · have e : AS.T { n := fn.ntmps, lo := np, tmps := numT 0 avs, items := its } t = .s (.one .dead) := by
            show findT t (numT 0 avs) = _
            rw [numT_find avs 0 t (Nat.zero_le _), Nat.sub_zero, List.getElem?_eq_none (by omega)]; rfl
          rw [e]; exact relDead _ _ _
      refine reaches_iff.1 h2 w Mu ρ _ _ _ hs1 ?_
      intro a' w' ρ' hs
      obtain ⟨Xs, x1, x2, x3, x4⟩ := resSV_spec hΘ hs hvs
      have hpost : a'.defers = [] ∧ ∃ v, (results fn a'.tmps).run P w' = .ok v w' ∧ ∃ Xs ρ', Ending.returned v = .returned (resVal Xs) ∧ Xs.length = (svAVs vs).length ∧
          Sim w Mu ρ' { n := (svAVs vs).length, lo := np, tmps := numT 0 (svAVs vs), items := s'.items } { tmps := Xs.toArray, defers := [] } w' := by
        refine ⟨hs.defers, resVal Xs, results_eq fn _ _ (by rw [ok.rv]; exact x4), Xs, ρ', rfl, by rw [svAVs_length]; omega, ?_⟩
        refine ⟨rfl, hs.nd, by rw [svAVs_length]; simp; omega, ?_, hs.hold, hs.own, hs.sep, hs.lt, hs.mono, hs.frame, by rw [← hlo]; exact hs.pin, hs.still, hs.out, hs.outp⟩
        intro t
        show RelV ρ' _ (findT t (numT 0 (svAVs vs))) _
        rw [numT_find _ 0 t (Nat.zero_le _), Nat.sub_zero, svAVs_get]
        by_cases ht : t < vs.length
        · have hv := List.getElem?_eq_getElem ht
          have hX := List.getElem?_eq_getElem (l := Xs) (i := t) (by omega)
          have e : (Xs.toArray).getD t undef = Xs[t]'(by omega) := by
            rw [Array.getD_eq_getD_getElem?]; simp [hX]
          rw [hv]
          show RelV ρ' _ (.s vs[t]) ((Xs.toArray).getD t undef)
          rw [e]
          exact x3 t _ _ hv hX
        · rw [List.getElem?_eq_none (by omega)]; exact relDead _ _ _
      cases e with
      | normal => exact hpost
      | ret => exact hpost
      | exit i => exact absurd rfl (he i)
    · cases h
  · cases h

end Go.Eng

/- shamir: small words. -/
namespace Go.Proofs.Ytogcijgklnfjjaa
open Go Go.Eng
set_option maxRecDepth 100000
set_option linter.unusedVariables false

noncomputable def I43 : (R : Type) → List DV → (List DV → Option R) → Option R := fun _ ds k => match ds with
  | [.v (.one (.int .i64 x))] => k [.v (.one (.bool (decide (x ≥ 1) && decide (x ≤ 255))))]
  | _ => none
theorem c43 : Contract Try.prog 43 { sig := S43, impl := I43 } := by
  refine Contract.refine fun R ds k r h => ⟨_, f43_contract 0 ctxOk_nil, ?_⟩
  unfold I43 at h
  split at h
  · rename_i x
    rw [f43_raw_eq]
    unfold f43_raw
    cases h1 : decide (x ≥ 1) with
    | false => rw [h1] at h; exact h
    | true => rw [h1] at h; exact h
  · cases h
noncomputable def I12 : (R : Type) → List DV → (List DV → Option R) → Option R := fun _ ds k => match ds with
  | [.v (.one (.int .i64 x))] => k [.v (.one (.int .i64 x))]
  | _ => none
theorem c12 : Contract Try.prog 12 { sig := S12, impl := I12 } := by
  refine Contract.refine fun R ds k r h => ⟨_, f12_contract 0 ctxOk_nil, ?_⟩
  unfold I12 at h
  split at h
  · rw [f12_raw_eq]; exact h
  · cases h
noncomputable def GT1 : Ctx := (12, { sig := S12, impl := I12 }) :: (19, { sig := S19, impl := I19 }) :: (40, { sig := S40, impl := I40 }) :: (43, { sig := S43, impl := I43 }) :: GZ
theorem GT1_ok : CtxOk Try.prog GT1 := ctxOk_cons ok12 rfl c12 (ctxOk_cons ok19 rfl c19 (ctxOk_cons ok40 rfl c40 (ctxOk_cons ok43 rfl c43 GZ_ok)))
end Go.Proofs.Ytogcijgklnfjjaa

/- What rime/shamir.listed comes to. MADE BY PROGRAM (wip/tools/mkfn.py, EngGen.lean). -/
namespace Go.Proofs.Ytogcijgklnfjjaa
open Go Go.Eng
set_option maxRecDepth 100000
set_option linter.unusedVariables false

def f39_0_sh : Shp := { n := 29, lo := 1, slots := [(3, .one (.fix (At.mapv 9))), (10, .one (.fix (At.own 0))), (11, .one (.int IntKind.i64)), (12, .one (.int IntKind.i64))], items := [(0, .view (RK.one IntKind.i64) 1), (9, .mp (MK.int IntKind.i64) IntKind.i64)] }
def f39_0_ex1 : Shp := { n := 29, lo := 1, slots := [(2, .one (.int IntKind.i64)), (19, .one (.bool)), (5, .one (.int IntKind.i64)), (4, .one (.int IntKind.i64)), (13, .one (.bool)), (3, .one (.fix (At.mapv 9))), (10, .one (.fix (At.own 0))), (11, .one (.int IntKind.i64)), (12, .one (.int IntKind.i64))], items := [(0, .view (RK.one IntKind.i64) 1), (9, .mp (MK.int IntKind.i64) IntKind.i64)] }
def f39_0_ex2 : Shp := { n := 29, lo := 1, slots := [(2, .one (.int IntKind.i64)), (23, .one (.bool)), (19, .one (.bool)), (5, .one (.int IntKind.i64)), (4, .one (.int IntKind.i64)), (13, .one (.bool)), (3, .one (.fix (At.mapv 9))), (10, .one (.fix (At.own 0))), (11, .one (.int IntKind.i64)), (12, .one (.int IntKind.i64))], items := [(0, .view (RK.one IntKind.i64) 1), (9, .mp (MK.int IntKind.i64) IntKind.i64)] }
def f39_0_ex3 : Shp := { n := 29, lo := 1, slots := [(13, .one (.bool)), (3, .one (.fix (At.mapv 9))), (10, .one (.fix (At.own 0))), (11, .one (.int IntKind.i64)), (12, .one (.int IntKind.i64))], items := [(0, .view (RK.one IntKind.i64) 1), (9, .mp (MK.int IntKind.i64) IntKind.i64)] }
noncomputable def f39_0_st {R : Type} (N : Nat) (self : Int → Int → List Int → List (List Int) → Option R) (k1 : Int → Bool → Int → Int → Bool → Int → Int → List Int → List (List Int) → Option R) (k2 : Int → Bool → Bool → Int → Int → Bool → Int → Int → List Int → List (List Int) → Option R) (k3 : Bool → Int → Int → List Int → List (List Int) → Option R) (x1 : Int) (x2 : Int) (x3 : List Int) (x4 : List (List Int)) : Option R :=
 bif Decidable.decide (x2 < x1) then
 bif Decidable.decide (0 ≤ x2) && Decidable.decide (x2 < nI (rowLen 1 x3)) then
 bif !(Decidable.decide (x3.getD (mulE x2.toNat 1) 0 ≥ 1) && Decidable.decide (x3.getD (mulE x2.toNat 1) 0 ≤ 255)) then k1 4 (!(Decidable.decide (x3.getD (mulE x2.toNat 1) 0 ≥ 1) && Decidable.decide (x3.getD (mulE x2.toNat 1) 0 ≤ 255))) (x3.getD (mulE x2.toNat 1) 0) x2 (Decidable.decide (x2 < x1)) x1 x2 x3 x4
 else
 bif Decidable.decide (mget x4 [x3.getD (mulE x2.toNat 1) 0] > 0) then k2 5 (Decidable.decide (mget x4 [x3.getD (mulE x2.toNat 1) 0] > 0)) (!(Decidable.decide (x3.getD (mulE x2.toNat 1) 0 ≥ 1) && Decidable.decide (x3.getD (mulE x2.toNat 1) 0 ≤ 255))) (x3.getD (mulE x2.toNat 1) 0) x2 (Decidable.decide (x2 < x1)) x1 x2 x3 x4
 else
 let v0 : Int := IntKind.i64.wrap (x2 + 1);
 self x1 v0 x3 (mput x4 [x3.getD (mulE x2.toNat 1) 0] v0)
 else Option.none
else k3 (Decidable.decide (x2 < x1)) x1 x2 x3 x4
noncomputable def f39_0_lp {R : Type} (N : Nat) (k1 : Int → Bool → Int → Int → Bool → Int → Int → List Int → List (List Int) → Option R) (k2 : Int → Bool → Bool → Int → Int → Bool → Int → Int → List Int → List (List Int) → Option R) (k3 : Bool → Int → Int → List Int → List (List Int) → Option R) : Nat → Int → Int → List Int → List (List Int) → Option R
 | 0, _, _, _, _ => none
 | n + 1, x1, x2, x3, x4 => f39_0_st N (f39_0_lp N k1 k2 k3 n) k1 k2 k3 x1 x2 x3 x4
noncomputable def f39_0_F (N : Nat) : (R : Type) → List Leaf → (X → AS → Option R) → Option R := fun _ ls K => match ls with
 | [.i x1, .i x2, .l x3, .ll x4] => f39_0_lp N (fun y1 y2 y3 y4 y5 y6 y7 y8 y9 => K (X.ret) (fill f39_0_ex1 [.i y1, .b y2, .i y3, .i y4, .b y5, .i y6, .i y7, .l y8, .ll y9])) (fun y1 y2 y3 y4 y5 y6 y7 y8 y9 y10 => K (X.ret) (fill f39_0_ex2 [.i y1, .b y2, .b y3, .i y4, .i y5, .b y6, .i y7, .i y8, .l y9, .ll y10])) (fun y1 y2 y3 y4 y5 => K (X.normal) (fill f39_0_ex3 [.b y1, .i y2, .i y3, .l y4, .ll y5])) N x1 x2 x3 x4
 | _ => none
noncomputable def f39_raw {R : Type} (N : Nat) (xs : List Int) (k : List DV → Option R) : Option R :=
 bif nI (rowLen 1 xs) == 0 then k [DV.v (SV.one (At.int IntKind.i64 8))] else f39_0_lp N (fun w0_1 w0_2 w0_3 w0_4 w0_5 w0_6 w0_7 w0_8 w0_9 => k [DV.v (SV.one (At.int IntKind.i64 w0_1))]) (fun w1_1 w1_2 w1_3 w1_4 w1_5 w1_6 w1_7 w1_8 w1_9 w1_10 => k [DV.v (SV.one (At.int IntKind.i64 w1_1))]) (fun w2_1 w2_2 w2_3 w2_4 w2_5 => k [DV.v (SV.one (At.int IntKind.i64 0))]) N (nI (rowLen 1 xs)) 0 xs []


noncomputable def E39 (N : Nat) : Env := { Θ := Th, Γ := GT1, K := K39, ν := N39, fuel := 0, lp := [(0, mkL N39_0 f39_0_sh (f39_0_F N))] }

theorem f39_0_st_eq {R : Type} (N : Nat) (K : X → AS → Option R) (n : Nat) (x1 : Int) (x2 : Int) (x3 : List Int) (x4 : List (List Int)) : roundsOf (E39 N) N39_0 0 B39_0 K (n + 1) (fill f39_0_sh [.i x1, .i x2, .l x3, .ll x4]) = f39_0_st N (fun x1 x2 x3 x4 => roundsOf (E39 N) N39_0 0 B39_0 K n (fill f39_0_sh [.i x1, .i x2, .l x3, .ll x4])) (fun y1 y2 y3 y4 y5 y6 y7 y8 y9 => K (X.ret) (fill f39_0_ex1 [.i y1, .b y2, .i y3, .i y4, .b y5, .i y6, .i y7, .l y8, .ll y9])) (fun y1 y2 y3 y4 y5 y6 y7 y8 y9 y10 => K (X.ret) (fill f39_0_ex2 [.i y1, .b y2, .b y3, .i y4, .i y5, .b y6, .i y7, .i y8, .l y9, .ll y10])) (fun y1 y2 y3 y4 y5 => K (X.normal) (fill f39_0_ex3 [.b y1, .i y2, .i y3, .l y4, .ll y5])) x1 x2 x3 x4 := by kernel_rfl
theorem f39_0_lp_eq {R : Type} (N : Nat) (K : X → AS → Option R) : ∀ (n : Nat) (x1 : Int) (x2 : Int) (x3 : List Int) (x4 : List (List Int)), roundsOf (E39 N) N39_0 0 B39_0 K n (fill f39_0_sh [.i x1, .i x2, .l x3, .ll x4]) = f39_0_lp N (fun y1 y2 y3 y4 y5 y6 y7 y8 y9 => K (X.ret) (fill f39_0_ex1 [.i y1, .b y2, .i y3, .i y4, .b y5, .i y6, .i y7, .l y8, .ll y9])) (fun y1 y2 y3 y4 y5 y6 y7 y8 y9 y10 => K (X.ret) (fill f39_0_ex2 [.i y1, .b y2, .b y3, .i y4, .i y5, .b y6, .i y7, .i y8, .l y9, .ll y10])) (fun y1 y2 y3 y4 y5 => K (X.normal) (fill f39_0_ex3 [.b y1, .i y2, .i y3, .l y4, .ll y5])) n x1 x2 x3 x4
  | 0, _, _, _, _ => rfl
  | n + 1, x1, x2, x3, x4 => by
    rw [f39_0_st_eq, f39_0_lp, show (fun x1 x2 x3 x4 => roundsOf (E39 N) N39_0 0 B39_0 K n (fill f39_0_sh [.i x1, .i x2, .l x3, .ll x4])) = f39_0_lp N (fun y1 y2 y3 y4 y5 y6 y7 y8 y9 => K (X.ret) (fill f39_0_ex1 [.i y1, .b y2, .i y3, .i y4, .b y5, .i y6, .i y7, .l y8, .ll y9])) (fun y1 y2 y3 y4 y5 y6 y7 y8 y9 y10 => K (X.ret) (fill f39_0_ex2 [.i y1, .b y2, .b y3, .i y4, .i y5, .b y6, .i y7, .i y8, .l y9, .ll y10])) (fun y1 y2 y3 y4 y5 => K (X.normal) (fill f39_0_ex3 [.b y1, .i y2, .i y3, .l y4, .ll y5])) n from by funext x1 x2 x3 x4; exact f39_0_lp_eq N K n x1 x2 x3 x4]
theorem f39_0_ok (N : Nat) (hlp : LoopsOk Try.prog (E39 N).lp B39_0) (hΓ : CtxOk Try.prog (E39 N).Γ) : LoopOk Try.prog (mkL N39_0 f39_0_sh (f39_0_F N)) 0 B39_0 := by
  refine loopOk_of (E := E39 N) thOk hΓ mixed hlp ?_
  intro R ls K r h
  unfold f39_0_F at h
  split at h
  · exact ⟨N, by rw [f39_0_lp_eq]; exact h⟩
  · cases h

theorem lok39_0 (N : Nat) (hΓ : CtxOk Try.prog GT1) : LoopOk Try.prog (mkL N39_0 f39_0_sh (f39_0_F N)) 0 B39_0 := f39_0_ok N (loopsOk_of (l := []) (by kernel_rfl) trivial) hΓ
theorem f39_contract (N : Nat) (hΓ : CtxOk Try.prog GT1) : Contract Try.prog 39 { sig := S39, impl := fun _ ds k => call (E39 N) S39 29 B39 R39 ds k } :=
  call_contract (E := E39 N) thOk hΓ mixed ok39.look ok39.body ok39.n ok39.rv ok39.name rfl (by decide) (loopsOk_of (l := [(0, B39_0)]) (by kernel_rfl) (allOk_cons (L := mkL N39_0 f39_0_sh (f39_0_F N)) rfl (lok39_0 N hΓ) trivial))
theorem f39_raw_eq {R : Type} (N : Nat) (xs : List Int) (k : List DV → Option R) : call (E39 N) S39 29 B39 R39 [.lst (.one .i64) 1 xs] k = f39_raw N xs k := by kernel_rfl
end Go.Proofs.Ytogcijgklnfjjaa

/- Maps that tell what was seen; the program's word on a list of identifiers. -/
namespace Go.Proofs.Ytogcijgklnfjjaa
open Go Go.Eng
set_option maxRecDepth 100000
set_option linter.unusedVariables false

theorem mget_put (k k' : List Int) (v : Int) : ∀ l : List (List Int), mget (mput l k v) k' = if k = k' then v else mget l k'
  | [] => by
    show mget [v :: k] k' = _
    unfold mget
    by_cases h : k = k'
    · rw [if_pos h, show decide ((v :: k).tail = k') = true from decide_eq_true h]; rfl
    · rw [if_neg h, show decide ((v :: k).tail = k') = false from decide_eq_false h]; rfl
  | e :: l => by
    unfold mput
    by_cases h1 : e.tail = k
    · rw [decide_eq_true h1]
      show mget ((v :: k) :: l) k' = _
      unfold mget
      by_cases h : k = k'
      · rw [if_pos h, show decide ((v :: k).tail = k') = true from decide_eq_true h]; rfl
      · rw [if_neg h, show decide ((v :: k).tail = k') = false from decide_eq_false h, show decide (e.tail = k') = false from decide_eq_false (fun q => h (h1.symm.trans q))]
    · rw [decide_eq_false h1]
      show mget (e :: mput l k v) k' = _
      unfold mget
      by_cases h2 : e.tail = k'
      · rw [decide_eq_true h2, if_neg (fun q => h1 (h2.trans q.symm))]
      · rw [decide_eq_false h2]; exact mget_put k k' v l

/-- the map of what was seen -/
def seenG (key : Nat → List Int) : Nat → List (List Int)
  | 0 => []
  | i + 1 => mput (seenG key i) (key i) ((i : Int) + 1)
def hasK (key : Nat → List Int) (k : List Int) : Nat → Bool
  | 0 => false
  | i + 1 => decide (key i = k) || hasK key k i
theorem seen_has (key : Nat → List Int) (k : List Int) : ∀ i, decide (mget (seenG key i) k > 0) = hasK key k i
  | 0 => rfl
  | i + 1 => by
    unfold seenG hasK
    rw [mget_put]
    by_cases h : key i = k
    · rw [if_pos h, decide_eq_true h, Bool.true_or]; exact decide_eq_true (by omega)
    · rw [if_neg h, decide_eq_false h, Bool.false_or]; exact seen_has key k i
theorem hasK_iff {key : Nat → List Int} {k : List Int} : ∀ {i}, hasK key k i = true ↔ ∃ j, j < i ∧ key j = k
  | 0 => by simp [hasK]
  | i + 1 => by
    unfold hasK
    rw [Bool.or_eq_true, hasK_iff (i := i), decide_eq_true_eq]
    constructor
    · rintro (h | ⟨j, h1, h2⟩)
      · exact ⟨i, by omega, h⟩
      · exact ⟨j, by omega, h2⟩
    · rintro ⟨j, h1, h2⟩
      by_cases e : j = i
      · subst e; exact .inl h2
      · exact .inr ⟨j, by omega, h2⟩

theorem dupF_iff {xs : List Int} {i : Nat} : ∀ {m k}, dupF xs i m k = true ↔ ∃ j, k ≤ j ∧ j < k + m ∧ xs.getD j 0 = xs.getD i 0
  | 0, k => by simp [dupF]; omega
  | m + 1, k => by
    unfold dupF
    rw [Bool.or_eq_true, dupF_iff (m := m), beq_iff_eq]
    constructor
    · rintro (h | ⟨j, h1, h2, h3⟩)
      · exact ⟨k, by omega, by omega, h⟩
      · exact ⟨j, by omega, by omega, h3⟩
    · rintro ⟨j, h1, h2, h3⟩
      by_cases e : j = k
      · subst e; exact .inl h3
      · exact .inr ⟨j, by omega, by omega, h3⟩
theorem dup_has (xs : List Int) (i : Nat) : hasK (fun j => [xs.getD j 0]) [xs.getD i 0] i = dupF xs i i 0 := by
  rw [Bool.eq_iff_iff, hasK_iff, dupF_iff]
  constructor
  · rintro ⟨j, h1, h2⟩; injection h2 with h2; exact ⟨j, by omega, by omega, h2⟩
  · rintro ⟨j, _, h2, h3⟩; exact ⟨j, by omega, by rw [h3]⟩

theorem f39_out {R : Type} {N : Nat} (K : Int → Option R) {xs : List Int} (hb : xs.length ≤ 1073741824) :
    ∀ j i : Nat, i + j = xs.length → ∀ fuel, j < fuel → f39_0_lp N (fun w0_1 _ _ _ _ _ _ _ _ => K w0_1) (fun w1_1 _ _ _ _ _ _ _ _ _ => K w1_1) (fun _ _ _ _ _ => K 0) fuel (xs.length : Int) (i : Int) xs (seenG (fun j => [xs.getD j 0]) i) = K (idsE xs j i) := by
  intro j
  induction j with
  | zero =>
    intro i h fuel hf
    obtain ⟨f, rfl⟩ : ∃ f, fuel = f + 1 := ⟨fuel - 1, by omega⟩
    show f39_0_st N (f39_0_lp N _ _ _ f) _ _ _ _ _ _ _ = _
    unfold f39_0_st
    rw [decide_eq_false (by omega), cond_false]
    rfl
  | succ j ih =>
    intro i h fuel hf
    obtain ⟨f, rfl⟩ : ∃ f, fuel = f + 1 := ⟨fuel - 1, by omega⟩
    show f39_0_st N (f39_0_lp N _ _ _ f) _ _ _ _ _ _ _ = _
    unfold f39_0_st
    have e4 : IntKind.i64.wrap ((i : Int) + 1) = ((i + 1 : Nat) : Int) := by
      rw [show (i : Int) + 1 = ((i + 1 : Nat) : Int) by omega]; exact wi64 (by omega)
    rw [rows1]
    dsimp only
    rw [show mulE (Int.toNat (i : Int)) 1 = i from rfl, decide_eq_true (show (0 : Int) ≤ (i : Int) by omega), decide_eq_true (show (i : Int) < (xs.length : Int) by omega), e4, seen_has, dup_has]
    simp only [Bool.and_self, cond_true]
    rw [idsE]
    have hbad : (!(decide (xs.getD i 0 ≥ 1) && decide (xs.getD i 0 ≤ 255))) = (decide (xs.getD i 0 < 1) || decide (xs.getD i 0 > 255)) := by
      rw [Bool.eq_iff_iff]; simp
    rw [hbad]
    cases h1 : decide (xs.getD i 0 < 1) || decide (xs.getD i 0 > 255) with
    | true => rfl
    | false =>
      rw [cond_false, cond_false]
      cases dupF xs i i 0 with
      | true => rfl
      | false =>
        rw [cond_false, cond_false]
        have := ih (i + 1) (by omega) f (by omega)
        exact this
theorem c39 : Contract Try.prog 39 { sig := S39, impl := I18 } := by
  refine Contract.refine fun R ds k r h => ?_
  unfold I18 at h
  split at h
  · rename_i xs
    refine ⟨_, f39_contract (xs.length + 1) GT1_ok, ?_⟩
    cases hc : Nat.ble xs.length 1073741824 with
    | false => rw [hc] at h; cases h
    | true =>
      rw [hc, cond_true] at h
      have hb := Nat.le_of_ble_eq_true hc
      rw [f39_raw_eq]
      unfold f39_raw
      unfold idsN at h
      rw [rows1]
      cases hq : Nat.beq xs.length 0 with
      | true =>
        rw [hq] at h
        rw [Nat.eq_of_beq_eq_true hq]
        exact h
      | false =>
        rw [hq, cond_false] at h
        have hq : xs.length ≠ 0 := fun e => by rw [e] at hq; cases hq
        rw [show (((xs.length : Nat) : Int) == 0) = false by simp; intro e; exact hq (by rw [e]; rfl), cond_false]
        exact (f39_out (N := xs.length + 1) (fun w => k [DV.v (SV.one (At.int IntKind.i64 w))]) hb xs.length 0 (by omega) (xs.length + 1) (by omega)).trans h
  · exact (Option.some_ne_none _ h.symm).elim
noncomputable def GT2 : Ctx := (39, { sig := S39, impl := I18 }) :: GT1
theorem GT2_ok : CtxOk Try.prog GT2 := ctxOk_cons ok39 rfl c39 GT1_ok
end Go.Proofs.Ytogcijgklnfjjaa

/- What rime/shamir.Through comes to. MADE BY PROGRAM (wip/tools/mkfn.py, EngGen.lean). -/
namespace Go.Proofs.Ytogcijgklnfjjaa
open Go Go.Eng
set_option maxRecDepth 100000
set_option linter.unusedVariables false

def f9_0_sh : Shp := { n := 161, lo := 1, slots := [(0, .one (.fix (At.own 0))), (4, .one (.fix (At.mapv 27))), (28, .one (.fix (At.own 0))), (29, .one (.int IntKind.i64)), (30, .one (.int IntKind.i64))], items := [(0, .view (RK.mix ck32) 64), (27, .mp (MK.arr IntKind.u8 32) IntKind.i64)] }
def f9_0_ex1 : Shp := { n := 161, lo := 1, slots := [(3, .one (.int IntKind.i64)), (2, .one (.fix (At.nils))), (42, .one (.bool)), (7, .one (.fix (At.ptr 7 0 Off.z 32))), (5, .one (.int IntKind.i64)), (6, .one (.fix (At.ptr 6 0 Off.z 64))), (31, .one (.bool)), (0, .one (.fix (At.own 0))), (4, .one (.fix (At.mapv 27))), (28, .one (.fix (At.own 0))), (29, .one (.int IntKind.i64)), (30, .one (.int IntKind.i64))], items := [(7, .obj [.ints IntKind.u8 32]), (6, .obj [.ints IntKind.u8 32, .ints IntKind.u8 32]), (0, .view (RK.mix ck32) 64), (27, .mp (MK.arr IntKind.u8 32) IntKind.i64)] }
def f9_0_ex2 : Shp := { n := 161, lo := 1, slots := [(31, .one (.bool)), (0, .one (.fix (At.own 0))), (4, .one (.fix (At.mapv 27))), (28, .one (.fix (At.own 0))), (29, .one (.int IntKind.i64)), (30, .one (.int IntKind.i64))], items := [(0, .view (RK.mix ck32) 64), (27, .mp (MK.arr IntKind.u8 32) IntKind.i64)] }
noncomputable def f9_0_st {R : Type} (N : Nat) (self : Int → Int → List Int → List (List Int) → Option R) (k1 : Int → Bool → Int → Bool → Int → Int → List Int → List Int → List Int → List Int → List (List Int) → Option R) (k2 : Bool → Int → Int → List Int → List (List Int) → Option R) (x1 : Int) (x2 : Int) (x3 : List Int) (x4 : List (List Int)) : Option R :=
 bif Decidable.decide (x2 < x1) then
 bif Decidable.decide (0 ≤ x2) && Decidable.decide (x2 < nI (rowLen 64 x3)) then
 bif okB (List.take 32 (List.drop (x2.toNat * 64 + 0) x3)) && okB (List.replicate 32 0) then
 bif Decidable.decide (mget x4 (sN (addN (vS (List.take 32 (List.drop (x2.toNat * 64 + 0) x3))) (vS (List.replicate 32 0)))) > 0) then k1 5 (Decidable.decide (mget x4 (sN (addN (vS (List.take 32 (List.drop (x2.toNat * 64 + 0) x3))) (vS (List.replicate 32 0)))) > 0)) x2 (Decidable.decide (x2 < x1)) x1 x2 (sN (addN (vS (List.take 32 (List.drop (x2.toNat * 64 + 0) x3))) (vS (List.replicate 32 0)))) (List.take 32 (List.drop (x2.toNat * 64 + 0) x3)) (List.take 32 (List.drop (x2.toNat * 64 + (0 + 32)) x3)) x3 x4
 else
 let v0 : Int := IntKind.i64.wrap (x2 + 1);
 self x1 v0 x3 (mput x4 (sN (addN (vS (List.take 32 (List.drop (x2.toNat * 64 + 0) x3))) (vS (List.replicate 32 0)))) v0)
 else Option.none
 else Option.none
else k2 (Decidable.decide (x2 < x1)) x1 x2 x3 x4
noncomputable def f9_0_lp {R : Type} (N : Nat) (k1 : Int → Bool → Int → Bool → Int → Int → List Int → List Int → List Int → List Int → List (List Int) → Option R) (k2 : Bool → Int → Int → List Int → List (List Int) → Option R) : Nat → Int → Int → List Int → List (List Int) → Option R
 | 0, _, _, _, _ => none
 | n + 1, x1, x2, x3, x4 => f9_0_st N (f9_0_lp N k1 k2 n) k1 k2 x1 x2 x3 x4
noncomputable def f9_0_F (N : Nat) : (R : Type) → List Leaf → (X → AS → Option R) → Option R := fun _ ls K => match ls with
 | [.i x1, .i x2, .l x3, .ll x4] => f9_0_lp N (fun y1 y2 y3 y4 y5 y6 y7 y8 y9 y10 y11 => K (X.ret) (fill f9_0_ex1 [.i y1, .b y2, .i y3, .b y4, .i y5, .i y6, .l y7, .l y8, .l y9, .l y10, .ll y11])) (fun y1 y2 y3 y4 y5 => K (X.normal) (fill f9_0_ex2 [.b y1, .i y2, .i y3, .l y4, .ll y5])) N x1 x2 x3 x4
 | _ => none
def f9_2_sh : Shp := { n := 161, lo := 1, slots := [(0, .one (.fix (At.own 0))), (8, .one (.int IntKind.i64)), (9, .one (.fix (At.own 51))), (52, .one (.fix (At.own 0))), (53, .one (.int IntKind.i64)), (54, .one (.int IntKind.i64))], items := [(0, .view (RK.mix ck32) 64), (51, .row (RK.one IntKind.u8) 32)] }
def f9_2_ex1 : Shp := { n := 161, lo := 1, slots := [(55, .one (.bool)), (0, .one (.fix (At.own 0))), (8, .one (.int IntKind.i64)), (9, .one (.fix (At.own 51))), (52, .one (.fix (At.own 0))), (53, .one (.int IntKind.i64)), (54, .one (.int IntKind.i64))], items := [(0, .view (RK.mix ck32) 64), (51, .row (RK.one IntKind.u8) 32)] }
noncomputable def f9_2_st {R : Type} (N : Nat) (self : Int → Int → Int → List Int → List Int → Option R) (k1 : Bool → Int → Int → Int → List Int → List Int → Option R) (x1 : Int) (x2 : Int) (x3 : Int) (x4 : List Int) (x5 : List Int) : Option R :=
 bif Decidable.decide (x3 < x2) then
 bif Decidable.decide (0 ≤ x3) && Decidable.decide (x3 < nI (rowLen 64 x4)) then
 bif okB (List.take 32 (List.drop (x3.toNat * 64 + (0 + 32)) x4)) && okB (List.replicate 32 0) then
 bif Decidable.decide (0 ≤ x3) && Decidable.decide (x3 < nI (rowLen 32 x5)) then
 let v0 : Int := IntKind.i64.wrap (x3 + 1);
 let v1 : List Int := splice x5 (Off.at (mulE x3.toNat 32)) (sN (addN (vS (List.take 32 (List.drop (x3.toNat * 64 + (0 + 32)) x4))) (vS (List.replicate 32 0))));
 self x1 x2 v0 x4 v1
 else Option.none
 else Option.none
 else Option.none
else k1 (Decidable.decide (x3 < x2)) x1 x2 x3 x4 x5
noncomputable def f9_2_lp {R : Type} (N : Nat) (k1 : Bool → Int → Int → Int → List Int → List Int → Option R) : Nat → Int → Int → Int → List Int → List Int → Option R
 | 0, _, _, _, _, _ => none
 | n + 1, x1, x2, x3, x4, x5 => f9_2_st N (f9_2_lp N k1 n) k1 x1 x2 x3 x4 x5
noncomputable def f9_2_F (N : Nat) : (R : Type) → List Leaf → (X → AS → Option R) → Option R := fun _ ls K => match ls with
 | [.i x1, .i x2, .i x3, .l x4, .l x5] => f9_2_lp N (fun y1 y2 y3 y4 y5 y6 => K (X.normal) (fill f9_2_ex1 [.b y1, .i y2, .i y3, .i y4, .l y5, .l y6])) N x1 x2 x3 x4 x5
 | _ => none
def f9_6_sh : Shp := { n := 161, lo := 1, slots := [(0, .one (.fix (At.own 0))), (8, .one (.int IntKind.i64)), (9, .one (.fix (At.own 51))), (12, .one (.int IntKind.i64)), (13, .one (.int IntKind.i64))], items := [(0, .view (RK.mix ck32) 64), (51, .row (RK.one IntKind.u8) 32)] }
def f9_6_ex1 : Shp := { n := 161, lo := 1, slots := [(76, .one (.bool)), (0, .one (.fix (At.own 0))), (8, .one (.int IntKind.i64)), (9, .one (.fix (At.own 51))), (12, .one (.int IntKind.i64)), (13, .one (.int IntKind.i64))], items := [(0, .view (RK.mix ck32) 64), (51, .row (RK.one IntKind.u8) 32)] }
noncomputable def f9_6_st {R : Type} (N : Nat) (self : Int → Int → Int → List Int → List Int → Option R) (k1 : Bool → Int → Int → Int → List Int → List Int → Option R) (x1 : Int) (x2 : Int) (x3 : Int) (x4 : List Int) (x5 : List Int) : Option R :=
 bif Decidable.decide (x3 ≥ x2) then
 bif Decidable.decide (0 ≤ x3) && Decidable.decide (x3 < nI (rowLen 64 x4)) then
 let v0 : Int := IntKind.i64.wrap (x3 - x2);
 bif Decidable.decide (0 ≤ v0) && Decidable.decide (v0 < nI (rowLen 64 x4)) then
 bif okB (List.take 32 (List.drop (x3.toNat * 64 + (0 + 0)) x4)) && okB (List.take 32 (List.drop (v0.toNat * 64 + (0 + 0)) x4)) then
 bif okB (sN (difN (vS (List.take 32 (List.drop (x3.toNat * 64 + (0 + 0)) x4))) (vS (List.take 32 (List.drop (v0.toNat * 64 + (0 + 0)) x4))))) then
 bif Decidable.decide (vS (sN (difN (vS (List.take 32 (List.drop (x3.toNat * 64 + (0 + 0)) x4))) (vS (List.take 32 (List.drop (v0.toNat * 64 + (0 + 0)) x4))))) = 0) then
 bif Decidable.decide (0 ≤ x3) && Decidable.decide (x3 < nI (rowLen 32 x5)) then
 let v1 : Int := IntKind.i64.wrap (x3 - 1);
 bif Decidable.decide (0 ≤ v1) && Decidable.decide (v1 < nI (rowLen 32 x5)) then
 bif okB (List.take 32 (List.drop (mulE x3.toNat 32) x5)) && okB (List.take 32 (List.drop (mulE v1.toNat 32) x5)) then
 bif okB (sN (difN (vS (List.take 32 (List.drop (mulE x3.toNat 32) x5))) (vS (List.take 32 (List.drop (mulE v1.toNat 32) x5))))) && okB (List.replicate 32 0) then
 bif Decidable.decide (0 ≤ x3) && Decidable.decide (x3 < nI (rowLen 32 x5)) then
 let v2 : List Int := splice x5 (Off.at (mulE x3.toNat 32)) (sN (mulN (vS (sN (difN (vS (List.take 32 (List.drop (mulE x3.toNat 32) x5))) (vS (List.take 32 (List.drop (mulE v1.toNat 32) x5)))))) (vS (List.replicate 32 0))));
 self x1 x2 v1 x4 v2
 else Option.none
 else Option.none
 else Option.none
 else Option.none
 else Option.none
 else
 bif Decidable.decide (0 ≤ x3) && Decidable.decide (x3 < nI (rowLen 32 x5)) then
 let v3 : Int := IntKind.i64.wrap (x3 - 1);
 bif Decidable.decide (0 ≤ v3) && Decidable.decide (v3 < nI (rowLen 32 x5)) then
 bif okB (List.take 32 (List.drop (mulE x3.toNat 32) x5)) && okB (List.take 32 (List.drop (mulE v3.toNat 32) x5)) then
 bif okB (sN (difN (vS (List.take 32 (List.drop (mulE x3.toNat 32) x5))) (vS (List.take 32 (List.drop (mulE v3.toNat 32) x5))))) && okB (sN (invN (vS (sN (difN (vS (List.take 32 (List.drop (x3.toNat * 64 + (0 + 0)) x4))) (vS (List.take 32 (List.drop (v0.toNat * 64 + (0 + 0)) x4)))))))) then
 bif Decidable.decide (0 ≤ x3) && Decidable.decide (x3 < nI (rowLen 32 x5)) then
 let v4 : List Int := splice x5 (Off.at (mulE x3.toNat 32)) (sN (mulN (vS (sN (difN (vS (List.take 32 (List.drop (mulE x3.toNat 32) x5))) (vS (List.take 32 (List.drop (mulE v3.toNat 32) x5)))))) (vS (sN (invN (vS (sN (difN (vS (List.take 32 (List.drop (x3.toNat * 64 + (0 + 0)) x4))) (vS (List.take 32 (List.drop (v0.toNat * 64 + (0 + 0)) x4)))))))))));
 self x1 x2 v3 x4 v4
 else Option.none
 else Option.none
 else Option.none
 else Option.none
 else Option.none
 else Option.none
 else Option.none
 else Option.none
 else Option.none
else k1 (Decidable.decide (x3 ≥ x2)) x1 x2 x3 x4 x5
noncomputable def f9_6_lp {R : Type} (N : Nat) (k1 : Bool → Int → Int → Int → List Int → List Int → Option R) : Nat → Int → Int → Int → List Int → List Int → Option R
 | 0, _, _, _, _, _ => none
 | n + 1, x1, x2, x3, x4, x5 => f9_6_st N (f9_6_lp N k1 n) k1 x1 x2 x3 x4 x5
noncomputable def f9_6_F (N : Nat) : (R : Type) → List Leaf → (X → AS → Option R) → Option R := fun _ ls K => match ls with
 | [.i x1, .i x2, .i x3, .l x4, .l x5] => f9_6_lp N (fun y1 y2 y3 y4 y5 y6 => K (X.normal) (fill f9_6_ex1 [.b y1, .i y2, .i y3, .i y4, .l y5, .l y6])) N x1 x2 x3 x4 x5
 | _ => none
def f9_4_sh : Shp := { n := 161, lo := 1, slots := [(0, .one (.fix (At.own 0))), (8, .one (.int IntKind.i64)), (9, .one (.fix (At.own 51))), (12, .one (.int IntKind.i64))], items := [(0, .view (RK.mix ck32) 64), (51, .row (RK.one IntKind.u8) 32)] }
def f9_4_ex1 : Shp := { n := 161, lo := 1, slots := [(69, .one (.bool)), (0, .one (.fix (At.own 0))), (8, .one (.int IntKind.i64)), (9, .one (.fix (At.own 51))), (12, .one (.int IntKind.i64))], items := [(0, .view (RK.mix ck32) 64), (51, .row (RK.one IntKind.u8) 32)] }
noncomputable def f9_4_st {R : Type} (N : Nat) (self : Int → Int → List Int → List Int → Option R) (k1 : Bool → Int → Int → List Int → List Int → Option R) (x1 : Int) (x2 : Int) (x3 : List Int) (x4 : List Int) : Option R :=
 bif Decidable.decide (x2 < x1) then
 let v0 : Int := IntKind.i64.wrap (x1 - 1);
 f9_6_lp N
 (fun w1_1 w1_2 w1_3 w1_4 w1_5 w1_6 =>
 let v2 : Int := IntKind.i64.wrap (w1_3 + 1);
 self w1_2 v2 w1_5 w1_6)
 N x1 x2 v0 x3 x4
else k1 (Decidable.decide (x2 < x1)) x1 x2 x3 x4
noncomputable def f9_4_lp {R : Type} (N : Nat) (k1 : Bool → Int → Int → List Int → List Int → Option R) : Nat → Int → Int → List Int → List Int → Option R
 | 0, _, _, _, _ => none
 | n + 1, x1, x2, x3, x4 => f9_4_st N (f9_4_lp N k1 n) k1 x1 x2 x3 x4
noncomputable def f9_4_F (N : Nat) : (R : Type) → List Leaf → (X → AS → Option R) → Option R := fun _ ls K => match ls with
 | [.i x1, .i x2, .l x3, .l x4] => f9_4_lp N (fun y1 y2 y3 y4 y5 => K (X.normal) (fill f9_4_ex1 [.b y1, .i y2, .i y3, .l y4, .l y5])) N x1 x2 x3 x4
 | _ => none
def f9_10_sh : Shp := { n := 161, lo := 1, slots := [(0, .one (.fix (At.own 0))), (8, .one (.int IntKind.i64)), (9, .one (.fix (At.own 51))), (16, .one (.fix (At.own 112))), (17, .one (.int IntKind.i64)), (18, .one (.int IntKind.i64))], items := [(0, .view (RK.mix ck32) 64), (51, .row (RK.one IntKind.u8) 32), (112, .row (RK.one IntKind.u8) 32)] }
def f9_10_ex1 : Shp := { n := 161, lo := 1, slots := [(122, .one (.bool)), (0, .one (.fix (At.own 0))), (8, .one (.int IntKind.i64)), (9, .one (.fix (At.own 51))), (16, .one (.fix (At.own 112))), (17, .one (.int IntKind.i64)), (18, .one (.int IntKind.i64))], items := [(0, .view (RK.mix ck32) 64), (51, .row (RK.one IntKind.u8) 32), (112, .row (RK.one IntKind.u8) 32)] }
noncomputable def f9_10_st {R : Type} (N : Nat) (self : Int → Int → Int → List Int → List Int → List Int → Option R) (k1 : Bool → Int → Int → Int → List Int → List Int → List Int → Option R) (x1 : Int) (x2 : Int) (x3 : Int) (x4 : List Int) (x5 : List Int) (x6 : List Int) : Option R :=
 bif Decidable.decide (x3 > 0) then
 let v0 : Int := IntKind.i64.wrap (x3 - 1);
 bif Decidable.decide (0 ≤ v0) && Decidable.decide (v0 < nI (rowLen 32 x6)) then
 bif Decidable.decide (0 ≤ x3) && Decidable.decide (x3 < nI (rowLen 32 x6)) then
 bif Decidable.decide (0 ≤ x2) && Decidable.decide (x2 < nI (rowLen 64 x4)) then
 bif okB (List.take 32 (List.drop (mulE x3.toNat 32) x6)) && okB (List.take 32 (List.drop (x2.toNat * 64 + (0 + 0)) x4)) then
 bif okB (List.take 32 (List.drop (mulE v0.toNat 32) x6)) && okB (sN (mulN (vS (List.take 32 (List.drop (mulE x3.toNat 32) x6))) (vS (List.take 32 (List.drop (x2.toNat * 64 + (0 + 0)) x4))))) then
 bif Decidable.decide (0 ≤ x3) && Decidable.decide (x3 < nI (rowLen 32 x6)) then
 let v1 : List Int := splice x6 (Off.at (mulE x3.toNat 32)) (sN (difN (vS (List.take 32 (List.drop (mulE v0.toNat 32) x6))) (vS (sN (mulN (vS (List.take 32 (List.drop (mulE x3.toNat 32) x6))) (vS (List.take 32 (List.drop (x2.toNat * 64 + (0 + 0)) x4))))))));
 self x1 x2 v0 x4 x5 v1
 else Option.none
 else Option.none
 else Option.none
 else Option.none
 else Option.none
 else Option.none
else k1 (Decidable.decide (x3 > 0)) x1 x2 x3 x4 x5 x6
noncomputable def f9_10_lp {R : Type} (N : Nat) (k1 : Bool → Int → Int → Int → List Int → List Int → List Int → Option R) : Nat → Int → Int → Int → List Int → List Int → List Int → Option R
 | 0, _, _, _, _, _, _ => none
 | n + 1, x1, x2, x3, x4, x5, x6 => f9_10_st N (f9_10_lp N k1 n) k1 x1 x2 x3 x4 x5 x6
noncomputable def f9_10_F (N : Nat) : (R : Type) → List Leaf → (X → AS → Option R) → Option R := fun _ ls K => match ls with
 | [.i x1, .i x2, .i x3, .l x4, .l x5, .l x6] => f9_10_lp N (fun y1 y2 y3 y4 y5 y6 y7 => K (X.normal) (fill f9_10_ex1 [.b y1, .i y2, .i y3, .i y4, .l y5, .l y6, .l y7])) N x1 x2 x3 x4 x5 x6
 | _ => none
def f9_8_sh : Shp := { n := 161, lo := 1, slots := [(0, .one (.fix (At.own 0))), (8, .one (.int IntKind.i64)), (9, .one (.fix (At.own 51))), (16, .one (.fix (At.own 112))), (17, .one (.int IntKind.i64))], items := [(0, .view (RK.mix ck32) 64), (51, .row (RK.one IntKind.u8) 32), (112, .row (RK.one IntKind.u8) 32)] }
def f9_8_ex1 : Shp := { n := 161, lo := 1, slots := [(116, .one (.bool)), (0, .one (.fix (At.own 0))), (8, .one (.int IntKind.i64)), (9, .one (.fix (At.own 51))), (16, .one (.fix (At.own 112))), (17, .one (.int IntKind.i64))], items := [(0, .view (RK.mix ck32) 64), (51, .row (RK.one IntKind.u8) 32), (112, .row (RK.one IntKind.u8) 32)] }
noncomputable def f9_8_st {R : Type} (N : Nat) (self : Int → Int → List Int → List Int → List Int → Option R) (k1 : Bool → Int → Int → List Int → List Int → List Int → Option R) (x1 : Int) (x2 : Int) (x3 : List Int) (x4 : List Int) (x5 : List Int) : Option R :=
 bif Decidable.decide (x2 ≥ 0) then
 let v0 : Int := IntKind.i64.wrap (x1 - 1);
 f9_10_lp N
 (fun w1_1 w1_2 w1_3 w1_4 w1_5 w1_6 w1_7 =>
 bif Decidable.decide (0 ≤ w1_3) && Decidable.decide (w1_3 < nI (rowLen 32 w1_6)) then
 bif Decidable.decide (0 ≤ 0) && Decidable.decide (0 < nI (rowLen 32 w1_7)) then
 bif Decidable.decide (0 ≤ w1_3) && Decidable.decide (w1_3 < nI (rowLen 64 w1_5)) then
 bif okB (List.take 32 (List.drop (mulE (Int.toNat 0) 32) w1_7)) && okB (List.take 32 (List.drop (w1_3.toNat * 64 + (0 + 0)) w1_5)) then
 bif okB (List.take 32 (List.drop (mulE w1_3.toNat 32) w1_6)) && okB (sN (mulN (vS (List.take 32 (List.drop (mulE (Int.toNat 0) 32) w1_7))) (vS (List.take 32 (List.drop (w1_3.toNat * 64 + (0 + 0)) w1_5))))) then
 bif Decidable.decide (0 ≤ 0) && Decidable.decide (0 < nI (rowLen 32 w1_7)) then
 let v2 : Int := IntKind.i64.wrap (w1_3 - 1);
 let v3 : List Int := splice w1_7 (Off.at (mulE (Int.toNat 0) 32)) (sN (difN (vS (List.take 32 (List.drop (mulE w1_3.toNat 32) w1_6))) (vS (sN (mulN (vS (List.take 32 (List.drop (mulE (Int.toNat 0) 32) w1_7))) (vS (List.take 32 (List.drop (w1_3.toNat * 64 + (0 + 0)) w1_5))))))));
 self w1_2 v2 w1_5 w1_6 v3
 else Option.none
 else Option.none
 else Option.none
 else Option.none
 else Option.none
 else Option.none)
 N x1 x2 v0 x3 x4 x5
else k1 (Decidable.decide (x2 ≥ 0)) x1 x2 x3 x4 x5
noncomputable def f9_8_lp {R : Type} (N : Nat) (k1 : Bool → Int → Int → List Int → List Int → List Int → Option R) : Nat → Int → Int → List Int → List Int → List Int → Option R
 | 0, _, _, _, _, _ => none
 | n + 1, x1, x2, x3, x4, x5 => f9_8_st N (f9_8_lp N k1 n) k1 x1 x2 x3 x4 x5
noncomputable def f9_8_F (N : Nat) : (R : Type) → List Leaf → (X → AS → Option R) → Option R := fun _ ls K => match ls with
 | [.i x1, .i x2, .l x3, .l x4, .l x5] => f9_8_lp N (fun y1 y2 y3 y4 y5 y6 => K (X.normal) (fill f9_8_ex1 [.b y1, .i y2, .i y3, .l y4, .l y5, .l y6])) N x1 x2 x3 x4 x5
 | _ => none
noncomputable def f9_raw {R : Type} (N : Nat) (pts : List Int) (k : List DV → Option R) : Option R :=
 bif nI (rowLen 64 pts) == 0 then k [DV.lst (RK.one IntKind.u8) 32 [], DV.v (SV.one (At.int IntKind.i64 8))]
else
 let v0 : Bool := bif Bool.false then Bool.true else Decidable.decide (nI (rowLen 64 pts) > 255);
 bif v0 then k [DV.lst (RK.one IntKind.u8) 32 [], DV.v (SV.one (At.int IntKind.i64 8))]
 else
 f9_0_lp N (fun w1_1 w1_2 w1_3 w1_4 w1_5 w1_6 w1_7 w1_8 w1_9 w1_10 w1_11 => k [DV.lst (RK.one IntKind.u8) 32 [], DV.v (SV.one (At.int IntKind.i64 w1_1))])
 (fun w2_1 w2_2 w2_3 w2_4 w2_5 =>
 bif Decidable.decide (0 ≤ nI (rowLen 64 w2_4)) && (Decidable.decide (nI (rowLen 64 w2_4) ≤ nI (rowLen 64 w2_4)) && (Decidable.decide (nI (rowLen 64 w2_4) ≤ 281474976710656) && Decidable.decide (nI (rowLen 64 w2_4) * 32 ≤ 281474976710656))) then
 f9_2_lp N
 (fun w3_1 w3_2 w3_3 w3_4 w3_5 w3_6 =>
 f9_4_lp N
 (fun w4_1 w4_2 w4_3 w4_4 w4_5 =>
 bif Decidable.decide (0 ≤ w4_2) && (Decidable.decide (w4_2 ≤ w4_2) && (Decidable.decide (w4_2 ≤ 281474976710656) && Decidable.decide (w4_2 * 32 ≤ 281474976710656))) then
 let v5 : Int := IntKind.i64.wrap (w4_2 - 1);
 f9_8_lp N (fun w6_1 w6_2 w6_3 w6_4 w6_5 w6_6 => k [DV.lst (RK.one IntKind.u8) 32 w6_6, DV.v (SV.one (At.int IntKind.i64 0))]) N w4_2 v5 w4_4 w4_5 (zerosOf (mulE w4_2.toNat 32))
 else Option.none)
 N w3_2 1 w3_5 w3_6)
 N (nI (rowLen 64 w2_4)) (nI (rowLen 64 w2_4)) 0 w2_4 (zerosOf (mulE (nI (rowLen 64 w2_4)).toNat 32))
 else Option.none)
 N (nI (rowLen 64 pts)) 0 pts []


noncomputable def E9 (N : Nat) : Env := { Θ := Th, Γ := GT2, K := K9, ν := N9, fuel := 0, lp := [(0, mkL N9_0 f9_0_sh (f9_0_F N)), (2, mkL N9_2 f9_2_sh (f9_2_F N)), (4, mkL N9_4 f9_4_sh (f9_4_F N)), (6, mkL N9_6 f9_6_sh (f9_6_F N)), (8, mkL N9_8 f9_8_sh (f9_8_F N)), (10, mkL N9_10 f9_10_sh (f9_10_F N))] }

theorem f9_0_st_eq {R : Type} (N : Nat) (K : X → AS → Option R) (n : Nat) (x1 : Int) (x2 : Int) (x3 : List Int) (x4 : List (List Int)) : roundsOf (E9 N) N9_0 0 B9_0 K (n + 1) (fill f9_0_sh [.i x1, .i x2, .l x3, .ll x4]) = f9_0_st N (fun x1 x2 x3 x4 => roundsOf (E9 N) N9_0 0 B9_0 K n (fill f9_0_sh [.i x1, .i x2, .l x3, .ll x4])) (fun y1 y2 y3 y4 y5 y6 y7 y8 y9 y10 y11 => K (X.ret) (fill f9_0_ex1 [.i y1, .b y2, .i y3, .b y4, .i y5, .i y6, .l y7, .l y8, .l y9, .l y10, .ll y11])) (fun y1 y2 y3 y4 y5 => K (X.normal) (fill f9_0_ex2 [.b y1, .i y2, .i y3, .l y4, .ll y5])) x1 x2 x3 x4 := by kernel_rfl
theorem f9_0_lp_eq {R : Type} (N : Nat) (K : X → AS → Option R) : ∀ (n : Nat) (x1 : Int) (x2 : Int) (x3 : List Int) (x4 : List (List Int)), roundsOf (E9 N) N9_0 0 B9_0 K n (fill f9_0_sh [.i x1, .i x2, .l x3, .ll x4]) = f9_0_lp N (fun y1 y2 y3 y4 y5 y6 y7 y8 y9 y10 y11 => K (X.ret) (fill f9_0_ex1 [.i y1, .b y2, .i y3, .b y4, .i y5, .i y6, .l y7, .l y8, .l y9, .l y10, .ll y11])) (fun y1 y2 y3 y4 y5 => K (X.normal) (fill f9_0_ex2 [.b y1, .i y2, .i y3, .l y4, .ll y5])) n x1 x2 x3 x4
  | 0, _, _, _, _ => rfl
  | n + 1, x1, x2, x3, x4 => by
    rw [f9_0_st_eq, f9_0_lp, show (fun x1 x2 x3 x4 => roundsOf (E9 N) N9_0 0 B9_0 K n (fill f9_0_sh [.i x1, .i x2, .l x3, .ll x4])) = f9_0_lp N (fun y1 y2 y3 y4 y5 y6 y7 y8 y9 y10 y11 => K (X.ret) (fill f9_0_ex1 [.i y1, .b y2, .i y3, .b y4, .i y5, .i y6, .l y7, .l y8, .l y9, .l y10, .ll y11])) (fun y1 y2 y3 y4 y5 => K (X.normal) (fill f9_0_ex2 [.b y1, .i y2, .i y3, .l y4, .ll y5])) n from by funext x1 x2 x3 x4; exact f9_0_lp_eq N K n x1 x2 x3 x4]
theorem f9_0_ok (N : Nat) (hlp : LoopsOk Try.prog (E9 N).lp B9_0) (hΓ : CtxOk Try.prog (E9 N).Γ) : LoopOk Try.prog (mkL N9_0 f9_0_sh (f9_0_F N)) 0 B9_0 := by
  refine loopOk_of (E := E9 N) thOk hΓ mixed hlp ?_
  intro R ls K r h
  unfold f9_0_F at h
  split at h
  · exact ⟨N, by rw [f9_0_lp_eq]; exact h⟩
  · cases h
theorem f9_2_st_eq {R : Type} (N : Nat) (K : X → AS → Option R) (n : Nat) (x1 : Int) (x2 : Int) (x3 : Int) (x4 : List Int) (x5 : List Int) : roundsOf (E9 N) N9_2 2 B9_2 K (n + 1) (fill f9_2_sh [.i x1, .i x2, .i x3, .l x4, .l x5]) = f9_2_st N (fun x1 x2 x3 x4 x5 => roundsOf (E9 N) N9_2 2 B9_2 K n (fill f9_2_sh [.i x1, .i x2, .i x3, .l x4, .l x5])) (fun y1 y2 y3 y4 y5 y6 => K (X.normal) (fill f9_2_ex1 [.b y1, .i y2, .i y3, .i y4, .l y5, .l y6])) x1 x2 x3 x4 x5 := by kernel_rfl
theorem f9_2_lp_eq {R : Type} (N : Nat) (K : X → AS → Option R) : ∀ (n : Nat) (x1 : Int) (x2 : Int) (x3 : Int) (x4 : List Int) (x5 : List Int), roundsOf (E9 N) N9_2 2 B9_2 K n (fill f9_2_sh [.i x1, .i x2, .i x3, .l x4, .l x5]) = f9_2_lp N (fun y1 y2 y3 y4 y5 y6 => K (X.normal) (fill f9_2_ex1 [.b y1, .i y2, .i y3, .i y4, .l y5, .l y6])) n x1 x2 x3 x4 x5
  | 0, _, _, _, _, _ => rfl
  | n + 1, x1, x2, x3, x4, x5 => by
    rw [f9_2_st_eq, f9_2_lp, show (fun x1 x2 x3 x4 x5 => roundsOf (E9 N) N9_2 2 B9_2 K n (fill f9_2_sh [.i x1, .i x2, .i x3, .l x4, .l x5])) = f9_2_lp N (fun y1 y2 y3 y4 y5 y6 => K (X.normal) (fill f9_2_ex1 [.b y1, .i y2, .i y3, .i y4, .l y5, .l y6])) n from by funext x1 x2 x3 x4 x5; exact f9_2_lp_eq N K n x1 x2 x3 x4 x5]
theorem f9_2_ok (N : Nat) (hlp : LoopsOk Try.prog (E9 N).lp B9_2) (hΓ : CtxOk Try.prog (E9 N).Γ) : LoopOk Try.prog (mkL N9_2 f9_2_sh (f9_2_F N)) 2 B9_2 := by
  refine loopOk_of (E := E9 N) thOk hΓ mixed hlp ?_
  intro R ls K r h
  unfold f9_2_F at h
  split at h
  · exact ⟨N, by rw [f9_2_lp_eq]; exact h⟩
  · cases h
theorem f9_6_st_eq {R : Type} (N : Nat) (K : X → AS → Option R) (n : Nat) (x1 : Int) (x2 : Int) (x3 : Int) (x4 : List Int) (x5 : List Int) : roundsOf (E9 N) N9_6 6 B9_6 K (n + 1) (fill f9_6_sh [.i x1, .i x2, .i x3, .l x4, .l x5]) = f9_6_st N (fun x1 x2 x3 x4 x5 => roundsOf (E9 N) N9_6 6 B9_6 K n (fill f9_6_sh [.i x1, .i x2, .i x3, .l x4, .l x5])) (fun y1 y2 y3 y4 y5 y6 => K (X.normal) (fill f9_6_ex1 [.b y1, .i y2, .i y3, .i y4, .l y5, .l y6])) x1 x2 x3 x4 x5 := by kernel_rfl
theorem f9_6_lp_eq {R : Type} (N : Nat) (K : X → AS → Option R) : ∀ (n : Nat) (x1 : Int) (x2 : Int) (x3 : Int) (x4 : List Int) (x5 : List Int), roundsOf (E9 N) N9_6 6 B9_6 K n (fill f9_6_sh [.i x1, .i x2, .i x3, .l x4, .l x5]) = f9_6_lp N (fun y1 y2 y3 y4 y5 y6 => K (X.normal) (fill f9_6_ex1 [.b y1, .i y2, .i y3, .i y4, .l y5, .l y6])) n x1 x2 x3 x4 x5
  | 0, _, _, _, _, _ => rfl
  | n + 1, x1, x2, x3, x4, x5 => by
    rw [f9_6_st_eq, f9_6_lp, show (fun x1 x2 x3 x4 x5 => roundsOf (E9 N) N9_6 6 B9_6 K n (fill f9_6_sh [.i x1, .i x2, .i x3, .l x4, .l x5])) = f9_6_lp N (fun y1 y2 y3 y4 y5 y6 => K (X.normal) (fill f9_6_ex1 [.b y1, .i y2, .i y3, .i y4, .l y5, .l y6])) n from by funext x1 x2 x3 x4 x5; exact f9_6_lp_eq N K n x1 x2 x3 x4 x5]
theorem f9_6_ok (N : Nat) (hlp : LoopsOk Try.prog (E9 N).lp B9_6) (hΓ : CtxOk Try.prog (E9 N).Γ) : LoopOk Try.prog (mkL N9_6 f9_6_sh (f9_6_F N)) 6 B9_6 := by
  refine loopOk_of (E := E9 N) thOk hΓ mixed hlp ?_
  intro R ls K r h
  unfold f9_6_F at h
  split at h
  · exact ⟨N, by rw [f9_6_lp_eq]; exact h⟩
  · cases h
theorem f9_4_st_eq {R : Type} (N : Nat) (K : X → AS → Option R) (n : Nat) (x1 : Int) (x2 : Int) (x3 : List Int) (x4 : List Int) : roundsOf (E9 N) N9_4 4 B9_4 K (n + 1) (fill f9_4_sh [.i x1, .i x2, .l x3, .l x4]) = f9_4_st N (fun x1 x2 x3 x4 => roundsOf (E9 N) N9_4 4 B9_4 K n (fill f9_4_sh [.i x1, .i x2, .l x3, .l x4])) (fun y1 y2 y3 y4 y5 => K (X.normal) (fill f9_4_ex1 [.b y1, .i y2, .i y3, .l y4, .l y5])) x1 x2 x3 x4 := by kernel_rfl
theorem f9_4_lp_eq {R : Type} (N : Nat) (K : X → AS → Option R) : ∀ (n : Nat) (x1 : Int) (x2 : Int) (x3 : List Int) (x4 : List Int), roundsOf (E9 N) N9_4 4 B9_4 K n (fill f9_4_sh [.i x1, .i x2, .l x3, .l x4]) = f9_4_lp N (fun y1 y2 y3 y4 y5 => K (X.normal) (fill f9_4_ex1 [.b y1, .i y2, .i y3, .l y4, .l y5])) n x1 x2 x3 x4
  | 0, _, _, _, _ => rfl
  | n + 1, x1, x2, x3, x4 => by
    rw [f9_4_st_eq, f9_4_lp, show (fun x1 x2 x3 x4 => roundsOf (E9 N) N9_4 4 B9_4 K n (fill f9_4_sh [.i x1, .i x2, .l x3, .l x4])) = f9_4_lp N (fun y1 y2 y3 y4 y5 => K (X.normal) (fill f9_4_ex1 [.b y1, .i y2, .i y3, .l y4, .l y5])) n from by funext x1 x2 x3 x4; exact f9_4_lp_eq N K n x1 x2 x3 x4]
theorem f9_4_ok (N : Nat) (hlp : LoopsOk Try.prog (E9 N).lp B9_4) (hΓ : CtxOk Try.prog (E9 N).Γ) : LoopOk Try.prog (mkL N9_4 f9_4_sh (f9_4_F N)) 4 B9_4 := by
  refine loopOk_of (E := E9 N) thOk hΓ mixed hlp ?_
  intro R ls K r h
  unfold f9_4_F at h
  split at h
  · exact ⟨N, by rw [f9_4_lp_eq]; exact h⟩
  · cases h
theorem f9_10_st_eq {R : Type} (N : Nat) (K : X → AS → Option R) (n : Nat) (x1 : Int) (x2 : Int) (x3 : Int) (x4 : List Int) (x5 : List Int) (x6 : List Int) : roundsOf (E9 N) N9_10 10 B9_10 K (n + 1) (fill f9_10_sh [.i x1, .i x2, .i x3, .l x4, .l x5, .l x6]) = f9_10_st N (fun x1 x2 x3 x4 x5 x6 => roundsOf (E9 N) N9_10 10 B9_10 K n (fill f9_10_sh [.i x1, .i x2, .i x3, .l x4, .l x5, .l x6])) (fun y1 y2 y3 y4 y5 y6 y7 => K (X.normal) (fill f9_10_ex1 [.b y1, .i y2, .i y3, .i y4, .l y5, .l y6, .l y7])) x1 x2 x3 x4 x5 x6 := by kernel_rfl
theorem f9_10_lp_eq {R : Type} (N : Nat) (K : X → AS → Option R) : ∀ (n : Nat) (x1 : Int) (x2 : Int) (x3 : Int) (x4 : List Int) (x5 : List Int) (x6 : List Int), roundsOf (E9 N) N9_10 10 B9_10 K n (fill f9_10_sh [.i x1, .i x2, .i x3, .l x4, .l x5, .l x6]) = f9_10_lp N (fun y1 y2 y3 y4 y5 y6 y7 => K (X.normal) (fill f9_10_ex1 [.b y1, .i y2, .i y3, .i y4, .l y5, .l y6, .l y7])) n x1 x2 x3 x4 x5 x6
  | 0, _, _, _, _, _, _ => rfl
  | n + 1, x1, x2, x3, x4, x5, x6 => by
    rw [f9_10_st_eq, f9_10_lp, show (fun x1 x2 x3 x4 x5 x6 => roundsOf (E9 N) N9_10 10 B9_10 K n (fill f9_10_sh [.i x1, .i x2, .i x3, .l x4, .l x5, .l x6])) = f9_10_lp N (fun y1 y2 y3 y4 y5 y6 y7 => K (X.normal) (fill f9_10_ex1 [.b y1, .i y2, .i y3, .i y4, .l y5, .l y6, .l y7])) n from by funext x1 x2 x3 x4 x5 x6; exact f9_10_lp_eq N K n x1 x2 x3 x4 x5 x6]
theorem f9_10_ok (N : Nat) (hlp : LoopsOk Try.prog (E9 N).lp B9_10) (hΓ : CtxOk Try.prog (E9 N).Γ) : LoopOk Try.prog (mkL N9_10 f9_10_sh (f9_10_F N)) 10 B9_10 := by
  refine loopOk_of (E := E9 N) thOk hΓ mixed hlp ?_
  intro R ls K r h
  unfold f9_10_F at h
  split at h
  · exact ⟨N, by rw [f9_10_lp_eq]; exact h⟩
  · cases h
theorem f9_8_st_eq {R : Type} (N : Nat) (K : X → AS → Option R) (n : Nat) (x1 : Int) (x2 : Int) (x3 : List Int) (x4 : List Int) (x5 : List Int) : roundsOf (E9 N) N9_8 8 B9_8 K (n + 1) (fill f9_8_sh [.i x1, .i x2, .l x3, .l x4, .l x5]) = f9_8_st N (fun x1 x2 x3 x4 x5 => roundsOf (E9 N) N9_8 8 B9_8 K n (fill f9_8_sh [.i x1, .i x2, .l x3, .l x4, .l x5])) (fun y1 y2 y3 y4 y5 y6 => K (X.normal) (fill f9_8_ex1 [.b y1, .i y2, .i y3, .l y4, .l y5, .l y6])) x1 x2 x3 x4 x5 := by kernel_rfl
theorem f9_8_lp_eq {R : Type} (N : Nat) (K : X → AS → Option R) : ∀ (n : Nat) (x1 : Int) (x2 : Int) (x3 : List Int) (x4 : List Int) (x5 : List Int), roundsOf (E9 N) N9_8 8 B9_8 K n (fill f9_8_sh [.i x1, .i x2, .l x3, .l x4, .l x5]) = f9_8_lp N (fun y1 y2 y3 y4 y5 y6 => K (X.normal) (fill f9_8_ex1 [.b y1, .i y2, .i y3, .l y4, .l y5, .l y6])) n x1 x2 x3 x4 x5
  | 0, _, _, _, _, _ => rfl
  | n + 1, x1, x2, x3, x4, x5 => by
    rw [f9_8_st_eq, f9_8_lp, show (fun x1 x2 x3 x4 x5 => roundsOf (E9 N) N9_8 8 B9_8 K n (fill f9_8_sh [.i x1, .i x2, .l x3, .l x4, .l x5])) = f9_8_lp N (fun y1 y2 y3 y4 y5 y6 => K (X.normal) (fill f9_8_ex1 [.b y1, .i y2, .i y3, .l y4, .l y5, .l y6])) n from by funext x1 x2 x3 x4 x5; exact f9_8_lp_eq N K n x1 x2 x3 x4 x5]
theorem f9_8_ok (N : Nat) (hlp : LoopsOk Try.prog (E9 N).lp B9_8) (hΓ : CtxOk Try.prog (E9 N).Γ) : LoopOk Try.prog (mkL N9_8 f9_8_sh (f9_8_F N)) 8 B9_8 := by
  refine loopOk_of (E := E9 N) thOk hΓ mixed hlp ?_
  intro R ls K r h
  unfold f9_8_F at h
  split at h
  · exact ⟨N, by rw [f9_8_lp_eq]; exact h⟩
  · cases h

theorem lok9_10 (N : Nat) (hΓ : CtxOk Try.prog GT2) : LoopOk Try.prog (mkL N9_10 f9_10_sh (f9_10_F N)) 10 B9_10 := f9_10_ok N (loopsOk_of (l := []) (by kernel_rfl) trivial) hΓ
theorem lok9_8 (N : Nat) (hΓ : CtxOk Try.prog GT2) : LoopOk Try.prog (mkL N9_8 f9_8_sh (f9_8_F N)) 8 B9_8 := f9_8_ok N (loopsOk_of (l := [(10, B9_10)]) (by kernel_rfl) (allOk_cons (L := mkL N9_10 f9_10_sh (f9_10_F N)) rfl (lok9_10 N hΓ) trivial)) hΓ
theorem lok9_6 (N : Nat) (hΓ : CtxOk Try.prog GT2) : LoopOk Try.prog (mkL N9_6 f9_6_sh (f9_6_F N)) 6 B9_6 := f9_6_ok N (loopsOk_of (l := []) (by kernel_rfl) trivial) hΓ
theorem lok9_4 (N : Nat) (hΓ : CtxOk Try.prog GT2) : LoopOk Try.prog (mkL N9_4 f9_4_sh (f9_4_F N)) 4 B9_4 := f9_4_ok N (loopsOk_of (l := [(6, B9_6)]) (by kernel_rfl) (allOk_cons (L := mkL N9_6 f9_6_sh (f9_6_F N)) rfl (lok9_6 N hΓ) trivial)) hΓ
theorem lok9_2 (N : Nat) (hΓ : CtxOk Try.prog GT2) : LoopOk Try.prog (mkL N9_2 f9_2_sh (f9_2_F N)) 2 B9_2 := f9_2_ok N (loopsOk_of (l := []) (by kernel_rfl) trivial) hΓ
theorem lok9_0 (N : Nat) (hΓ : CtxOk Try.prog GT2) : LoopOk Try.prog (mkL N9_0 f9_0_sh (f9_0_F N)) 0 B9_0 := f9_0_ok N (loopsOk_of (l := []) (by kernel_rfl) trivial) hΓ
theorem f9_contract (N : Nat) (hΓ : CtxOk Try.prog GT2) : Contract Try.prog 9 { sig := S9, impl := fun _ ds k => call (E9 N) S9 161 B9 R9 ds k } :=
  call_contract (E := E9 N) thOk hΓ mixed ok9.look ok9.body ok9.n ok9.rv ok9.name rfl (by decide) (loopsOk_of (l := [(0, B9_0), (2, B9_2), (4, B9_4), (6, B9_6), (8, B9_8), (10, B9_10)]) (by kernel_rfl) (allOk_cons (L := mkL N9_0 f9_0_sh (f9_0_F N)) rfl (lok9_0 N hΓ) (allOk_cons (L := mkL N9_2 f9_2_sh (f9_2_F N)) rfl (lok9_2 N hΓ) (allOk_cons (L := mkL N9_4 f9_4_sh (f9_4_F N)) rfl (lok9_4 N hΓ) (allOk_cons (L := mkL N9_6 f9_6_sh (f9_6_F N)) rfl (lok9_6 N hΓ) (allOk_cons (L := mkL N9_8 f9_8_sh (f9_8_F N)) rfl (lok9_8 N hΓ) (allOk_cons (L := mkL N9_10 f9_10_sh (f9_10_F N)) rfl (lok9_10 N hΓ) trivial)))))))
theorem f9_raw_eq {R : Type} (N : Nat) (pts : List Int) (k : List DV → Option R) : call (E9 N) S9 161 B9 R9 [.lst (.mix ck32) 64 pts] k = f9_raw N pts k := by kernel_rfl
end Go.Proofs.Ytogcijgklnfjjaa

/- Lists of scalars as functions: reading, writing. -/
namespace Go.Proofs.Ytogcijgklnfjjaa
open Go Go.Eng
set_option maxRecDepth 100000
set_option linter.unusedVariables false

/-- so many scalars -/
noncomputable def arrN (f : Nat → Nat) (n : Nat) : List Int := headG (fun i => sN (f i)) n
def upd (f : Nat → Nat) (i v j : Nat) : Nat := if j = i then v else f j
theorem arr_len (f : Nat → Nat) (n : Nat) : (arrN f n).length = n * 32 := headG_len (fun i => sN_len _) n
theorem arr_div (f : Nat → Nat) (n : Nat) : (arrN f n).length / 32 = n := by rw [arr_len]; omega
theorem arr_rows (f : Nat → Nat) (n : Nat) : nI (rowLen 32 (arrN f n)) = (n : Int) := by
  show ((((arrN f n).length / 32 : Nat)) : Int) = _
  rw [arr_div]
theorem arr_congr {f g : Nat → Nat} : ∀ {n}, (∀ i, i < n → f i = g i) → arrN f n = arrN g n
  | 0, _ => rfl
  | n + 1, h => by
    show headG _ n ++ sN (f n) = headG _ n ++ sN (g n)
    rw [h n (by omega)]
    exact congrArg (· ++ sN (g n)) (arr_congr (n := n) fun i hi => h i (by omega))
theorem arr_succ (f : Nat → Nat) (n : Nat) : arrN f (n + 1) = arrN f n ++ sN (f n) := rfl
theorem arr_split (f : Nat → Nat) {i : Nat} : ∀ {n}, i < n → ∃ C, arrN f n = arrN f i ++ (sN (f i) ++ C)
  | n + 1, h => by
    by_cases e : i = n
    · subst e; exact ⟨[], by rw [arr_succ, List.append_nil]⟩
    · obtain ⟨C, hC⟩ := arr_split f (i := i) (n := n) (by omega)
      exact ⟨C ++ sN (f n), by rw [arr_succ, hC]; simp [List.append_assoc]⟩
theorem arr_el (f : Nat → Nat) {i n : Nat} (h : i < n) : List.take 32 (List.drop (i * 32) (arrN f n)) = sN (f i) := by
  obtain ⟨C, hC⟩ := arr_split f h
  rw [hC, List.drop_left' (arr_len f i), List.take_left' (sN_len _)]
theorem arr_elF (f : Nat → Nat) {i n : Nat} (h : i < n) : elF (arrN f n) i = sN (f i) := arr_el f h
theorem arr_split2 (f : Nat → Nat) (v : Nat) {i : Nat} : ∀ {n}, i < n → ∃ C, arrN f n = arrN f i ++ (sN (f i) ++ C) ∧ arrN (upd f i v) n = arrN f i ++ (sN v ++ C)
  | n + 1, h => by
    by_cases e : i = n
    · subst e
      refine ⟨[], by rw [arr_succ, List.append_nil], ?_⟩
      rw [arr_succ, List.append_nil, show upd f i v i = v by simp [upd]]
      exact congrArg (· ++ sN v) (arr_congr fun j hj => by simp [upd, show j ≠ i by omega])
    · obtain ⟨C, h1, h2⟩ := arr_split2 f v (i := i) (n := n) (by omega)
      refine ⟨C ++ sN (f n), by rw [arr_succ, h1]; simp [List.append_assoc], ?_⟩
      rw [arr_succ, h2, show upd f i v n = f n by simp [upd, show n ≠ i from fun q => e q.symm]]; simp [List.append_assoc]
theorem arr_set (f : Nat → Nat) (v : Nat) {i n : Nat} (h : i < n) : splice (arrN f n) (.at (i * 32)) (sN v) = arrN (upd f i v) n := by
  obtain ⟨C, h1, h2⟩ := arr_split2 f v h
  rw [h1, h2]
  exact splice_mid (arr_len f i) (by rw [sN_len, sN_len])
theorem arr_zero : ∀ n, zerosOf (n * 32) = arrN (fun _ => 0) n
  | 0 => rfl
  | n + 1 => by
    rw [arr_succ, ← arr_zero n, ← b_zero', show (n + 1) * 32 = n * 32 + 32 by omega, zeros_app]; rfl
theorem arr_okF {f : Nat → Nat} {n : Nat} (h : n * 32 ≤ 1073741824) : okF (arrN f n) = true := by
  unfold okF
  rw [Bool.and_eq_true, Bool.and_eq_true]
  refine ⟨⟨?_, ?_⟩, ?_⟩
  · rw [arr_len, show n * 32 % 32 = 0 by omega]; rfl
  · rw [arr_len]; exact Nat.ble_eq ▸ h
  · rw [List.all_eq_true]
    clear h
    induction n with
    | zero => intro b hb; cases hb
    | succ n ih =>
      intro b hb
      rw [arr_succ] at hb
      rcases List.mem_append.1 hb with hb | hb
      · exact ih b hb
      · have := okB_sN (f n)
        unfold okB at this
        rw [Bool.and_eq_true, List.all_eq_true] at this
        exact this.2 b hb
/-- canonical lists are those of their numbers -/
theorem sN_inj1 {a b : Nat} (ha : a < ell) (hb : b < ell) (h : sN a = sN b) : a = b := by
  have := congrArg vS h
  rwa [vS_sN ha, vS_sN hb] at this
theorem arr_inj {f g : Nat → Nat} {n : Nat} (hf : ∀ i, i < n → f i < ell) (hg : ∀ i, i < n → g i < ell) (h : arrN f n = arrN g n) : ∀ i, i < n → f i = g i := fun i hi => by
  have h1 := arr_el f hi
  rw [h, arr_el g hi] at h1
  exact (sN_inj1 (hg i hi) (hf i hi) h1).symm
/-- wrap at sums that stay small -/
theorem wAdd {i : Nat} (h : i < 1073741824) : IntKind.i64.wrap ((i : Int) + 1) = ((i + 1 : Nat) : Int) := by
  rw [show (i : Int) + 1 = ((i + 1 : Nat) : Int) by omega]; exact wi64 (by omega)
theorem wSub {i : Nat} (h : i < 1073741824) : IntKind.i64.wrap (((i + 1 : Nat) : Int) - 1) = (i : Int) := by
  rw [show ((i + 1 : Nat) : Int) - 1 = (i : Int) by omega]; exact wi64 (by omega)
theorem toN (i : Nat) : mulE (Int.toNat (i : Int)) 32 = i * 32 := rfl
theorem ge0 (i : Nat) : decide ((0 : Int) ≤ (i : Int)) = true := decide_eq_true (by omega)
theorem ltT {i n : Nat} (h : i < n) : decide ((i : Int) < (n : Int)) = true := decide_eq_true (by omega)
theorem ltF {i n : Nat} (h : ¬ i < n) : decide ((i : Int) < (n : Int)) = false := decide_eq_false (by omega)

/-- one step after another -/
def iterF {α : Type} (step : Nat → α → α) : Nat → Nat → α → α
  | 0, _, g => g
  | m + 1, i, g => iterF step m (i + 1) (step i g)
theorem iterF_last {α : Type} (step : Nat → α → α) : ∀ (m i : Nat) (g : α), iterF step (m + 1) i g = step (i + m) (iterF step m i g)
  | 0, i, g => rfl
  | m + 1, i, g => by
    show iterF step (m + 1) (i + 1) (step i g) = step (i + (m + 1)) (iterF step m (i + 1) (step i g))
    rw [iterF_last step m (i + 1) (step i g), show i + 1 + m = i + (m + 1) by omega]
end Go.Proofs.Ytogcijgklnfjjaa

/- What rime/rimeref07.times comes to. MADE BY PROGRAM (wip/tools/mkfn.py, EngGen.lean). -/
namespace Go.Proofs.Ytogcijgklnfjjaa
open Go Go.Eng
set_option maxRecDepth 100000
set_option linter.unusedVariables false

def f61_0_sh : Shp := { n := 46, lo := 2, slots := [(0, .one (.fix (At.own 0))), (3, .one (.fix (At.ptr 3 0 Off.z 32))), (5, .one (.fix (At.own 10))), (6, .one (.int IntKind.i64))], items := [(0, .view (RK.one IntKind.u8) 32), (3, .obj [.ints IntKind.u8 32]), (10, .row (RK.one IntKind.u8) 32)] }
def f61_0_ex1 : Shp := { n := 46, lo := 2, slots := [(14, .one (.bool)), (0, .one (.fix (At.own 0))), (3, .one (.fix (At.ptr 3 0 Off.z 32))), (5, .one (.fix (At.own 10))), (6, .one (.int IntKind.i64))], items := [(0, .view (RK.one IntKind.u8) 32), (3, .obj [.ints IntKind.u8 32]), (10, .row (RK.one IntKind.u8) 32)] }
noncomputable def f61_0_st {R : Type} (N : Nat) (self : Int → List Int → List Int → List Int → Option R) (k1 : Bool → Int → List Int → List Int → List Int → Option R) (x1 : Int) (x2 : List Int) (x3 : List Int) (x4 : List Int) : Option R :=
 bif Decidable.decide (x1 < nI (rowLen 32 x2)) then
 let v0 : Int := IntKind.i64.wrap (x1 + 1);
 bif Decidable.decide (0 ≤ v0) && Decidable.decide (v0 < nI (rowLen 32 x4)) then
 bif Decidable.decide (0 ≤ x1) && Decidable.decide (x1 < nI (rowLen 32 x2)) then
 bif okB (List.take 32 (List.drop (mulE v0.toNat 32) x4)) && okB (List.take 32 (List.drop (mulE x1.toNat 32) x2)) then
 bif Decidable.decide (0 ≤ v0) && Decidable.decide (v0 < nI (rowLen 32 x4)) then
 let v1 : List Int := splice x4 (Off.at (mulE v0.toNat 32)) (sN (addN (vS (List.take 32 (List.drop (mulE v0.toNat 32) x4))) (vS (List.take 32 (List.drop (mulE x1.toNat 32) x2)))));
 bif Decidable.decide (0 ≤ x1) && Decidable.decide (x1 < nI (rowLen 32 v1)) then
 bif Decidable.decide (0 ≤ x1) && Decidable.decide (x1 < nI (rowLen 32 x2)) then
 bif okB x3 && okB (List.take 32 (List.drop (mulE x1.toNat 32) x2)) then
 bif okB (List.take 32 (List.drop (mulE x1.toNat 32) v1)) && okB (sN (mulN (vS x3) (vS (List.take 32 (List.drop (mulE x1.toNat 32) x2))))) then
 bif Decidable.decide (0 ≤ x1) && Decidable.decide (x1 < nI (rowLen 32 v1)) then
 let v2 : List Int := splice v1 (Off.at (mulE x1.toNat 32)) (sN (difN (vS (List.take 32 (List.drop (mulE x1.toNat 32) v1))) (vS (sN (mulN (vS x3) (vS (List.take 32 (List.drop (mulE x1.toNat 32) x2))))))));
 self v0 x2 x3 v2
 else Option.none
 else Option.none
 else Option.none
 else Option.none
 else Option.none
 else Option.none
 else Option.none
 else Option.none
 else Option.none
else k1 (Decidable.decide (x1 < nI (rowLen 32 x2))) x1 x2 x3 x4
noncomputable def f61_0_lp {R : Type} (N : Nat) (k1 : Bool → Int → List Int → List Int → List Int → Option R) : Nat → Int → List Int → List Int → List Int → Option R
 | 0, _, _, _, _ => none
 | n + 1, x1, x2, x3, x4 => f61_0_st N (f61_0_lp N k1 n) k1 x1 x2 x3 x4
noncomputable def f61_0_F (N : Nat) : (R : Type) → List Leaf → (X → AS → Option R) → Option R := fun _ ls K => match ls with
 | [.i x1, .l x2, .l x3, .l x4] => f61_0_lp N (fun y1 y2 y3 y4 y5 => K (X.normal) (fill f61_0_ex1 [.b y1, .i y2, .l y3, .l y4, .l y5])) N x1 x2 x3 x4
 | _ => none
noncomputable def f61_raw {R : Type} (N : Nat) (xs : List Int) (x : List Int) (k : List DV → Option R) : Option R :=
 let v0 : Int := IntKind.i64.wrap (nI (rowLen 32 xs) + 1);
bif Decidable.decide (0 ≤ v0) && (Decidable.decide (v0 ≤ v0) && (Decidable.decide (v0 ≤ 281474976710656) && Decidable.decide (v0 * 32 ≤ 281474976710656))) then f61_0_lp N (fun w1_1 w1_2 w1_3 w1_4 w1_5 => k [DV.lst (RK.one IntKind.u8) 32 w1_5]) N 0 xs x (zerosOf (mulE v0.toNat 32)) else Option.none


noncomputable def E61 (N : Nat) : Env := { Θ := Th, Γ := GRX, K := K61, ν := N61, fuel := 0, lp := [(0, mkL N61_0 f61_0_sh (f61_0_F N))] }

theorem f61_0_st_eq {R : Type} (N : Nat) (K : X → AS → Option R) (n : Nat) (x1 : Int) (x2 : List Int) (x3 : List Int) (x4 : List Int) : roundsOf (E61 N) N61_0 0 B61_0 K (n + 1) (fill f61_0_sh [.i x1, .l x2, .l x3, .l x4]) = f61_0_st N (fun x1 x2 x3 x4 => roundsOf (E61 N) N61_0 0 B61_0 K n (fill f61_0_sh [.i x1, .l x2, .l x3, .l x4])) (fun y1 y2 y3 y4 y5 => K (X.normal) (fill f61_0_ex1 [.b y1, .i y2, .l y3, .l y4, .l y5])) x1 x2 x3 x4 := by kernel_rfl
theorem f61_0_lp_eq {R : Type} (N : Nat) (K : X → AS → Option R) : ∀ (n : Nat) (x1 : Int) (x2 : List Int) (x3 : List Int) (x4 : List Int), roundsOf (E61 N) N61_0 0 B61_0 K n (fill f61_0_sh [.i x1, .l x2, .l x3, .l x4]) = f61_0_lp N (fun y1 y2 y3 y4 y5 => K (X.normal) (fill f61_0_ex1 [.b y1, .i y2, .l y3, .l y4, .l y5])) n x1 x2 x3 x4
  | 0, _, _, _, _ => rfl
  | n + 1, x1, x2, x3, x4 => by
    rw [f61_0_st_eq, f61_0_lp, show (fun x1 x2 x3 x4 => roundsOf (E61 N) N61_0 0 B61_0 K n (fill f61_0_sh [.i x1, .l x2, .l x3, .l x4])) = f61_0_lp N (fun y1 y2 y3 y4 y5 => K (X.normal) (fill f61_0_ex1 [.b y1, .i y2, .l y3, .l y4, .l y5])) n from by funext x1 x2 x3 x4; exact f61_0_lp_eq N K n x1 x2 x3 x4]
theorem f61_0_ok (N : Nat) (hlp : LoopsOk Try.prog (E61 N).lp B61_0) (hΓ : CtxOk Try.prog (E61 N).Γ) : LoopOk Try.prog (mkL N61_0 f61_0_sh (f61_0_F N)) 0 B61_0 := by
  refine loopOk_of (E := E61 N) thOk hΓ mixed hlp ?_
  intro R ls K r h
  unfold f61_0_F at h
  split at h
  · exact ⟨N, by rw [f61_0_lp_eq]; exact h⟩
  · cases h

theorem lok61_0 (N : Nat) (hΓ : CtxOk Try.prog GRX) : LoopOk Try.prog (mkL N61_0 f61_0_sh (f61_0_F N)) 0 B61_0 := f61_0_ok N (loopsOk_of (l := []) (by kernel_rfl) trivial) hΓ
theorem f61_contract (N : Nat) (hΓ : CtxOk Try.prog GRX) : Contract Try.prog 61 { sig := S61, impl := fun _ ds k => call (E61 N) S61 46 B61 R61 ds k } :=
  call_contract (E := E61 N) thOk hΓ mixed ok61.look ok61.body ok61.n ok61.rv ok61.name rfl (by decide) (loopsOk_of (l := [(0, B61_0)]) (by kernel_rfl) (allOk_cons (L := mkL N61_0 f61_0_sh (f61_0_F N)) rfl (lok61_0 N hΓ) trivial))
theorem f61_raw_eq {R : Type} (N : Nat) (xs : List Int) (x : List Int) (k : List DV → Option R) : call (E61 N) S61 46 B61 R61 [.lst (.one .u8) 32 xs, .v (.one (.ints .u8 32 x))] k = f61_raw N xs x k := by kernel_rfl
end Go.Proofs.Ytogcijgklnfjjaa

/- The document's product with a factor of degree one. -/
namespace Go.Proofs.Ytogcijgklnfjjaa
open Go Go.Eng
set_option maxRecDepth 100000
set_option linter.unusedVariables false

def LtE (g : Nat → Nat) : Prop := ∀ j, g j < ell
theorem LtE.upd {g : Nat → Nat} (h : LtE g) {v : Nat} (hv : v < ell) (i : Nat) : LtE (upd g i v) := fun j => by
  unfold Proofs.Ytogcijgklnfjjaa.upd; split
  · exact hv
  · exact h j
theorem ltE_zero : LtE (fun _ => 0) := fun _ => ell_pos
theorem iterF_inv {α : Type} {P : α → Prop} {step : Nat → α → α} (hs : ∀ i g, P g → P (step i g)) : ∀ (m i : Nat) (g : α), P g → P (iterF step m i g)
  | 0, _, _, h => h
  | m + 1, i, g, h => iterF_inv hs m (i + 1) _ (hs i g h)

/-- one coefficient further -/
noncomputable def timesSt (p : Nat → Nat) (a i : Nat) (g : Nat → Nat) : Nat → Nat :=
  upd (upd g (i + 1) (addN (g (i + 1)) (p i))) i (difN (upd g (i + 1) (addN (g (i + 1)) (p i)) i) (mulN a (p i)))
theorem timesSt_lt {p : Nat → Nat} {a i : Nat} {g : Nat → Nat} (h : LtE g) : LtE (timesSt p a i g) := (h.upd (addN_lt _ _) _).upd (difN_lt _ _) _
/-- a list's numbers -/
noncomputable def numF (xs : List Int) (i : Nat) : Nat := vS (elF xs i)
theorem numF_lt (xs : List Int) : LtE (numF xs) := fun i => vS_lt _
noncomputable def timesG (p : Nat → Nat) (a n : Nat) : Nat → Nat := iterF (timesSt p a) n 0 (fun _ => 0)
theorem timesG_lt (p : Nat → Nat) (a n : Nat) : LtE (timesG p a n) := iterF_inv (fun i g h => timesSt_lt h) _ _ _ ltE_zero

theorem f61_loop {R : Type} {N : Nat} (K : List Int → Option R) {xs x : List Int} {n : Nat} (hx : okF xs = true) (ho : okB x = true) (hn : xs.length / 32 = n) :
    ∀ j i : Nat, i + j = n → ∀ fuel, j < fuel → ∀ g, LtE g → f61_0_lp N (fun _ _ _ _ w5 => K w5) fuel (i : Int) xs x (arrN g (n + 1)) = K (arrN (iterF (timesSt (numF xs) (vS x)) j i g) (n + 1)) := by
  have hb := okF_n hx
  intro j
  induction j with
  | zero =>
    intro i h fuel hf g hg
    obtain ⟨f, rfl⟩ : ∃ f, fuel = f + 1 := ⟨fuel - 1, by omega⟩
    show f61_0_st N (f61_0_lp N _ f) _ _ _ _ _ = _
    unfold f61_0_st
    rw [rows32 hx, hn, ltF (by omega), cond_false]
    rfl
  | succ j ih =>
    intro i h fuel hf g hg
    obtain ⟨f, rfl⟩ : ∃ f, fuel = f + 1 := ⟨fuel - 1, by omega⟩
    show f61_0_st N (f61_0_lp N _ f) _ _ _ _ _ = _
    unfold f61_0_st
    have o1 := okF_el hx (i := i) (by omega)
    have e1 : List.take 32 (List.drop (i * 32) xs) = elF xs i := rfl
    have g1 : LtE (upd g (i + 1) (addN (g (i + 1)) (numF xs i))) := hg.upd (addN_lt _ _) _
    rw [rows32 hx, hn, wAdd (by omega)]
    dsimp only
    rw [ltT (show i < n by omega), toN, toN, e1, arr_rows, arr_el g (show i + 1 < n + 1 by omega), o1, okB_sN, ge0, ge0, ltT (show i + 1 < n + 1 by omega), vS_sN (hg _), arr_set g _ (show i + 1 < n + 1 by omega),
      arr_rows, ltT (show i < n + 1 by omega), ho]
    rw [show vS (elF xs i) = numF xs i from rfl, arr_el _ (show i < n + 1 by omega), okB_sN, okB_sN, vS_sN (g1 i), vS_sN (mulN_lt _ _), arr_set _ _ (show i < n + 1 by omega)]
    simp only [Bool.and_self, cond_true]
    exact ih (i + 1) (by omega) f (by omega) _ (timesSt_lt hg)
noncomputable def I61 : (R : Type) → List DV → (List DV → Option R) → Option R := fun _ ds k => match ds with
  | [.lst (.one .u8) 32 xs, .v (.one (.ints .u8 32 x))] => bif okF xs && okB x then k [.lst (.one .u8) 32 (arrN (timesG (numF xs) (vS x) (xs.length / 32)) (xs.length / 32 + 1))] else none
  | _ => none
theorem c61 : Contract Try.prog 61 { sig := S61, impl := I61 } := by
  refine Contract.refine fun R ds k r h => ?_
  unfold I61 at h
  split at h
  · rename_i xs x
    refine ⟨_, f61_contract (xs.length / 32 + 1) GRX_ok, ?_⟩
    cases hc : okF xs && okB x with
    | false => rw [hc] at h; cases h
    | true =>
      rw [hc, cond_true] at h
      rw [Bool.and_eq_true] at hc
      have hb := okF_n hc.1
      rw [f61_raw_eq]
      unfold f61_raw
      dsimp only
      rw [rows32 hc.1, wAdd (by omega)]
      have e1 : (decide (0 ≤ ((xs.length / 32 + 1 : Nat) : Int)) && (decide (((xs.length / 32 + 1 : Nat) : Int) ≤ ((xs.length / 32 + 1 : Nat) : Int)) && (decide (((xs.length / 32 + 1 : Nat) : Int) ≤ 281474976710656) && decide (((xs.length / 32 + 1 : Nat) : Int) * 32 ≤ 281474976710656)))) = true := by
        simp only [Bool.and_eq_true, decide_eq_true_eq]; omega
      rw [e1, cond_true, toN, arr_zero]
      exact (f61_loop (N := xs.length / 32 + 1) (fun w => k [DV.lst (RK.one IntKind.u8) 32 w]) hc.1 hc.2 rfl (xs.length / 32) 0 (by omega) (xs.length / 32 + 1) (by omega) _ ltE_zero).trans h
  · exact (Option.some_ne_none _ h.symm).elim
noncomputable def GRY : Ctx := (61, { sig := S61, impl := I61 }) :: GRX
theorem GRY_ok : CtxOk Try.prog GRY := ctxOk_cons ok61 rfl c61 GRX_ok
end Go.Proofs.Ytogcijgklnfjjaa

/- What rime/rimeref07.coefs comes to. MADE BY PROGRAM (wip/tools/mkfn.py, EngGen.lean). -/
namespace Go.Proofs.Ytogcijgklnfjjaa
open Go Go.Eng
set_option maxRecDepth 100000
set_option linter.unusedVariables false

def f34_2_sh : Shp := { n := 83, lo := 2, slots := [(0, .one (.fix (At.own 0))), (1, .one (.fix (At.own 1))), (5, .one (.fix (At.own 16))), (6, .one (.int IntKind.i64)), (7, .one (.fix (At.own 1000007))), (8, .one (.fix (At.ptr 8 0 Off.z 32))), (9, .one (.int IntKind.i64))], items := [(1000007, .row (RK.one IntKind.u8) 32), (0, .view (RK.one IntKind.u8) 32), (1, .view (RK.one IntKind.u8) 32), (8, .obj [.ints IntKind.u8 32]), (16, .row (RK.one IntKind.u8) 32)] }
def f34_2_ex1 : Shp := { n := 83, lo := 2, slots := [(29, .one (.bool)), (0, .one (.fix (At.own 0))), (1, .one (.fix (At.own 1))), (5, .one (.fix (At.own 16))), (6, .one (.int IntKind.i64)), (7, .one (.fix (At.own 1000007))), (8, .one (.fix (At.ptr 8 0 Off.z 32))), (9, .one (.int IntKind.i64))], items := [(1000007, .row (RK.one IntKind.u8) 32), (0, .view (RK.one IntKind.u8) 32), (1, .view (RK.one IntKind.u8) 32), (8, .obj [.ints IntKind.u8 32]), (16, .row (RK.one IntKind.u8) 32)] }
noncomputable def f34_2_st {R : Type} (N : Nat) (self : Int → Int → List Int → List Int → List Int → List Int → List Int → Option R) (k1 : Bool → Int → Int → List Int → List Int → List Int → List Int → List Int → Option R) (x1 : Int) (x2 : Int) (x3 : List Int) (x4 : List Int) (x5 : List Int) (x6 : List Int) (x7 : List Int) : Option R :=
 bif Decidable.decide (x2 < nI (rowLen 32 x4)) then
 bif x2 != x1 then
 bif Decidable.decide (0 ≤ x2) && Decidable.decide (x2 < nI (rowLen 32 x4)) then
 bif okF x3 && okB (List.take 32 (List.drop (mulE x2.toNat 32) x4)) then
 bif Decidable.decide (0 ≤ x1) && Decidable.decide (x1 < nI (rowLen 32 x4)) then
 bif Decidable.decide (0 ≤ x2) && Decidable.decide (x2 < nI (rowLen 32 x4)) then
 bif okB (List.take 32 (List.drop (mulE x1.toNat 32) x4)) && okB (List.take 32 (List.drop (mulE x2.toNat 32) x4)) then
 bif okB x6 && okB (sN (difN (vS (List.take 32 (List.drop (mulE x1.toNat 32) x4))) (vS (List.take 32 (List.drop (mulE x2.toNat 32) x4))))) then
 let v0 : Int := IntKind.i64.wrap (x2 + 1);
 self x1 v0 (arrN (timesG (numF x3) (vS (List.take 32 (List.drop (mulE x2.toNat 32) x4))) (x3.length / 32)) (x3.length / 32 + 1)) x4 x5 (sN (mulN (vS x6) (vS (sN (difN (vS (List.take 32 (List.drop (mulE x1.toNat 32) x4))) (vS (List.take 32 (List.drop (mulE x2.toNat 32) x4)))))))) x7
 else Option.none
 else Option.none
 else Option.none
 else Option.none
 else Option.none
 else Option.none
 else
 let v1 : Int := IntKind.i64.wrap (x2 + 1);
 self x1 v1 x3 x4 x5 x6 x7
else k1 (Decidable.decide (x2 < nI (rowLen 32 x4))) x1 x2 x3 x4 x5 x6 x7
noncomputable def f34_2_lp {R : Type} (N : Nat) (k1 : Bool → Int → Int → List Int → List Int → List Int → List Int → List Int → Option R) : Nat → Int → Int → List Int → List Int → List Int → List Int → List Int → Option R
 | 0, _, _, _, _, _, _, _ => none
 | n + 1, x1, x2, x3, x4, x5, x6, x7 => f34_2_st N (f34_2_lp N k1 n) k1 x1 x2 x3 x4 x5 x6 x7
noncomputable def f34_2_F (N : Nat) : (R : Type) → List Leaf → (X → AS → Option R) → Option R := fun _ ls K => match ls with
 | [.i x1, .i x2, .l x3, .l x4, .l x5, .l x6, .l x7] => f34_2_lp N (fun y1 y2 y3 y4 y5 y6 y7 y8 => K (X.normal) (fill f34_2_ex1 [.b y1, .i y2, .i y3, .l y4, .l y5, .l y6, .l y7, .l y8])) N x1 x2 x3 x4 x5 x6 x7
 | _ => none
def f34_4_sh : Shp := { n := 83, lo := 2, slots := [(0, .one (.fix (At.own 0))), (1, .one (.fix (At.own 1))), (5, .one (.fix (At.own 16))), (6, .one (.int IntKind.i64)), (7, .one (.fix (At.own 1000007))), (12, .one (.fix (At.ptr 12 0 Off.z 32))), (13, .one (.int IntKind.i64))], items := [(0, .view (RK.one IntKind.u8) 32), (1, .view (RK.one IntKind.u8) 32), (12, .obj [.ints IntKind.u8 32]), (16, .row (RK.one IntKind.u8) 32), (1000007, .row (RK.one IntKind.u8) 32)] }
def f34_4_ex1 : Shp := { n := 83, lo := 2, slots := [(66, .one (.bool)), (0, .one (.fix (At.own 0))), (1, .one (.fix (At.own 1))), (5, .one (.fix (At.own 16))), (6, .one (.int IntKind.i64)), (7, .one (.fix (At.own 1000007))), (12, .one (.fix (At.ptr 12 0 Off.z 32))), (13, .one (.int IntKind.i64))], items := [(0, .view (RK.one IntKind.u8) 32), (1, .view (RK.one IntKind.u8) 32), (12, .obj [.ints IntKind.u8 32]), (16, .row (RK.one IntKind.u8) 32), (1000007, .row (RK.one IntKind.u8) 32)] }
noncomputable def f34_4_st {R : Type} (N : Nat) (self : Int → Int → List Int → List Int → List Int → List Int → List Int → Option R) (k1 : Bool → Int → Int → List Int → List Int → List Int → List Int → List Int → Option R) (x1 : Int) (x2 : Int) (x3 : List Int) (x4 : List Int) (x5 : List Int) (x6 : List Int) (x7 : List Int) : Option R :=
 bif Decidable.decide (x2 < nI (rowLen 32 x7)) then
 bif Decidable.decide (0 ≤ x2) && Decidable.decide (x2 < nI (rowLen 32 x7)) then
 bif Decidable.decide (0 ≤ x2) && Decidable.decide (x2 < nI (rowLen 32 x6)) then
 bif okB x5 && okB (List.take 32 (List.drop (mulE x2.toNat 32) x7)) && okB (List.take 32 (List.drop (mulE x2.toNat 32) x6)) then
 bif Decidable.decide (0 ≤ x2) && Decidable.decide (x2 < nI (rowLen 32 x6)) then
 let v0 : Int := IntKind.i64.wrap (x2 + 1);
 let v1 : List Int := splice x6 (Off.at (mulE x2.toNat 32)) (sN (addN (mulN (vS x5) (vS (List.take 32 (List.drop (mulE x2.toNat 32) x7)))) (vS (List.take 32 (List.drop (mulE x2.toNat 32) x6)))));
 self x1 v0 x3 x4 x5 v1 x7
 else Option.none
 else Option.none
 else Option.none
 else Option.none
else k1 (Decidable.decide (x2 < nI (rowLen 32 x7))) x1 x2 x3 x4 x5 x6 x7
noncomputable def f34_4_lp {R : Type} (N : Nat) (k1 : Bool → Int → Int → List Int → List Int → List Int → List Int → List Int → Option R) : Nat → Int → Int → List Int → List Int → List Int → List Int → List Int → Option R
 | 0, _, _, _, _, _, _, _ => none
 | n + 1, x1, x2, x3, x4, x5, x6, x7 => f34_4_st N (f34_4_lp N k1 n) k1 x1 x2 x3 x4 x5 x6 x7
noncomputable def f34_4_F (N : Nat) : (R : Type) → List Leaf → (X → AS → Option R) → Option R := fun _ ls K => match ls with
 | [.i x1, .i x2, .l x3, .l x4, .l x5, .l x6, .l x7] => f34_4_lp N (fun y1 y2 y3 y4 y5 y6 y7 y8 => K (X.normal) (fill f34_4_ex1 [.b y1, .i y2, .i y3, .l y4, .l y5, .l y6, .l y7, .l y8])) N x1 x2 x3 x4 x5 x6 x7
 | _ => none
def f34_0_sh : Shp := { n := 83, lo := 2, slots := [(0, .one (.fix (At.own 0))), (1, .one (.fix (At.own 1))), (5, .one (.fix (At.own 16))), (6, .one (.int IntKind.i64))], items := [(0, .view (RK.one IntKind.u8) 32), (1, .view (RK.one IntKind.u8) 32), (16, .row (RK.one IntKind.u8) 32)] }
def f34_0_ex1 : Shp := { n := 83, lo := 2, slots := [(20, .one (.bool)), (0, .one (.fix (At.own 0))), (1, .one (.fix (At.own 1))), (5, .one (.fix (At.own 16))), (6, .one (.int IntKind.i64))], items := [(0, .view (RK.one IntKind.u8) 32), (1, .view (RK.one IntKind.u8) 32), (16, .row (RK.one IntKind.u8) 32)] }
noncomputable def f34_0_st {R : Type} (N : Nat) (self : Int → List Int → List Int → List Int → Option R) (k1 : Bool → Int → List Int → List Int → List Int → Option R) (x1 : Int) (x2 : List Int) (x3 : List Int) (x4 : List Int) : Option R :=
 bif Decidable.decide (x1 < nI (rowLen 32 x2)) then
 let v0 : List Int := splice (zerosOf (1 * 32)) (Off.at (0 * 32)) (sN (Int.toNat 1));
 f34_2_lp N
 (fun w1_1 w1_2 w1_3 w1_4 w1_5 w1_6 w1_7 w1_8 =>
 bif okB w1_7 then
 bif Decidable.decide (vS w1_7 = 0) then
 bif Decidable.decide (0 ≤ w1_2) && Decidable.decide (w1_2 < nI (rowLen 32 w1_6)) then
 bif okB (List.take 32 (List.drop (mulE w1_2.toNat 32) w1_6)) && okB (List.replicate 32 0) then
 f34_4_lp N
 (fun w2_1 w2_2 w2_3 w2_4 w2_5 w2_6 w2_7 w2_8 =>
 let v3 : Int := IntKind.i64.wrap (w2_2 + 1);
 self v3 w2_4 w2_5 w2_7)
 N w1_2 0 w1_5 w1_6 (sN (mulN (vS (List.take 32 (List.drop (mulE w1_2.toNat 32) w1_6))) (vS (List.replicate 32 0)))) w1_8 w1_4
 else Option.none
 else Option.none
 else
 bif Decidable.decide (0 ≤ w1_2) && Decidable.decide (w1_2 < nI (rowLen 32 w1_6)) then
 bif okB (List.take 32 (List.drop (mulE w1_2.toNat 32) w1_6)) && okB (sN (invN (vS w1_7))) then
 f34_4_lp N
 (fun w4_1 w4_2 w4_3 w4_4 w4_5 w4_6 w4_7 w4_8 =>
 let v5 : Int := IntKind.i64.wrap (w4_2 + 1);
 self v5 w4_4 w4_5 w4_7)
 N w1_2 0 w1_5 w1_6 (sN (mulN (vS (List.take 32 (List.drop (mulE w1_2.toNat 32) w1_6))) (vS (sN (invN (vS w1_7)))))) w1_8 w1_4
 else Option.none
 else Option.none
 else Option.none)
 N x1 0 v0 x2 x3 (sN (Int.toNat 1)) x4
else k1 (Decidable.decide (x1 < nI (rowLen 32 x2))) x1 x2 x3 x4
noncomputable def f34_0_lp {R : Type} (N : Nat) (k1 : Bool → Int → List Int → List Int → List Int → Option R) : Nat → Int → List Int → List Int → List Int → Option R
 | 0, _, _, _, _ => none
 | n + 1, x1, x2, x3, x4 => f34_0_st N (f34_0_lp N k1 n) k1 x1 x2 x3 x4
noncomputable def f34_0_F (N : Nat) : (R : Type) → List Leaf → (X → AS → Option R) → Option R := fun _ ls K => match ls with
 | [.i x1, .l x2, .l x3, .l x4] => f34_0_lp N (fun y1 y2 y3 y4 y5 => K (X.normal) (fill f34_0_ex1 [.b y1, .i y2, .l y3, .l y4, .l y5])) N x1 x2 x3 x4
 | _ => none
noncomputable def f34_raw {R : Type} (N : Nat) (xs : List Int) (ys : List Int) (k : List DV → Option R) : Option R :=
 bif Decidable.decide (0 ≤ nI (rowLen 32 xs)) && (Decidable.decide (nI (rowLen 32 xs) ≤ nI (rowLen 32 xs)) && (Decidable.decide (nI (rowLen 32 xs) ≤ 281474976710656) && Decidable.decide (nI (rowLen 32 xs) * 32 ≤ 281474976710656))) then f34_0_lp N (fun w0_1 w0_2 w0_3 w0_4 w0_5 => k [DV.lst (RK.one IntKind.u8) 32 w0_5]) N 0 xs ys (zerosOf (mulE (nI (rowLen 32 xs)).toNat 32)) else Option.none


noncomputable def E34 (N : Nat) : Env := { Θ := Th, Γ := GRY, K := K34, ν := N34, fuel := 0, lp := [(0, mkL N34_0 f34_0_sh (f34_0_F N)), (2, mkL N34_2 f34_2_sh (f34_2_F N)), (4, mkL N34_4 f34_4_sh (f34_4_F N))] }

theorem f34_2_st_eq {R : Type} (N : Nat) (K : X → AS → Option R) (n : Nat) (x1 : Int) (x2 : Int) (x3 : List Int) (x4 : List Int) (x5 : List Int) (x6 : List Int) (x7 : List Int) : roundsOf (E34 N) N34_2 2 B34_2 K (n + 1) (fill f34_2_sh [.i x1, .i x2, .l x3, .l x4, .l x5, .l x6, .l x7]) = f34_2_st N (fun x1 x2 x3 x4 x5 x6 x7 => roundsOf (E34 N) N34_2 2 B34_2 K n (fill f34_2_sh [.i x1, .i x2, .l x3, .l x4, .l x5, .l x6, .l x7])) (fun y1 y2 y3 y4 y5 y6 y7 y8 => K (X.normal) (fill f34_2_ex1 [.b y1, .i y2, .i y3, .l y4, .l y5, .l y6, .l y7, .l y8])) x1 x2 x3 x4 x5 x6 x7 := by kernel_rfl
theorem f34_2_lp_eq {R : Type} (N : Nat) (K : X → AS → Option R) : ∀ (n : Nat) (x1 : Int) (x2 : Int) (x3 : List Int) (x4 : List Int) (x5 : List Int) (x6 : List Int) (x7 : List Int), roundsOf (E34 N) N34_2 2 B34_2 K n (fill f34_2_sh [.i x1, .i x2, .l x3, .l x4, .l x5, .l x6, .l x7]) = f34_2_lp N (fun y1 y2 y3 y4 y5 y6 y7 y8 => K (X.normal) (fill f34_2_ex1 [.b y1, .i y2, .i y3, .l y4, .l y5, .l y6, .l y7, .l y8])) n x1 x2 x3 x4 x5 x6 x7
  | 0, _, _, _, _, _, _, _ => rfl
  | n + 1, x1, x2, x3, x4, x5, x6, x7 => by
    rw [f34_2_st_eq, f34_2_lp, show (fun x1 x2 x3 x4 x5 x6 x7 => roundsOf (E34 N) N34_2 2 B34_2 K n (fill f34_2_sh [.i x1, .i x2, .l x3, .l x4, .l x5, .l x6, .l x7])) = f34_2_lp N (fun y1 y2 y3 y4 y5 y6 y7 y8 => K (X.normal) (fill f34_2_ex1 [.b y1, .i y2, .i y3, .l y4, .l y5, .l y6, .l y7, .l y8])) n from by funext x1 x2 x3 x4 x5 x6 x7; exact f34_2_lp_eq N K n x1 x2 x3 x4 x5 x6 x7]
theorem f34_2_ok (N : Nat) (hlp : LoopsOk Try.prog (E34 N).lp B34_2) (hΓ : CtxOk Try.prog (E34 N).Γ) : LoopOk Try.prog (mkL N34_2 f34_2_sh (f34_2_F N)) 2 B34_2 := by
  refine loopOk_of (E := E34 N) thOk hΓ mixed hlp ?_
  intro R ls K r h
  unfold f34_2_F at h
  split at h
  · exact ⟨N, by rw [f34_2_lp_eq]; exact h⟩
  · cases h
theorem f34_4_st_eq {R : Type} (N : Nat) (K : X → AS → Option R) (n : Nat) (x1 : Int) (x2 : Int) (x3 : List Int) (x4 : List Int) (x5 : List Int) (x6 : List Int) (x7 : List Int) : roundsOf (E34 N) N34_4 4 B34_4 K (n + 1) (fill f34_4_sh [.i x1, .i x2, .l x3, .l x4, .l x5, .l x6, .l x7]) = f34_4_st N (fun x1 x2 x3 x4 x5 x6 x7 => roundsOf (E34 N) N34_4 4 B34_4 K n (fill f34_4_sh [.i x1, .i x2, .l x3, .l x4, .l x5, .l x6, .l x7])) (fun y1 y2 y3 y4 y5 y6 y7 y8 => K (X.normal) (fill f34_4_ex1 [.b y1, .i y2, .i y3, .l y4, .l y5, .l y6, .l y7, .l y8])) x1 x2 x3 x4 x5 x6 x7 := by kernel_rfl
theorem f34_4_lp_eq {R : Type} (N : Nat) (K : X → AS → Option R) : ∀ (n : Nat) (x1 : Int) (x2 : Int) (x3 : List Int) (x4 : List Int) (x5 : List Int) (x6 : List Int) (x7 : List Int), roundsOf (E34 N) N34_4 4 B34_4 K n (fill f34_4_sh [.i x1, .i x2, .l x3, .l x4, .l x5, .l x6, .l x7]) = f34_4_lp N (fun y1 y2 y3 y4 y5 y6 y7 y8 => K (X.normal) (fill f34_4_ex1 [.b y1, .i y2, .i y3, .l y4, .l y5, .l y6, .l y7, .l y8])) n x1 x2 x3 x4 x5 x6 x7
  | 0, _, _, _, _, _, _, _ => rfl
  | n + 1, x1, x2, x3, x4, x5, x6, x7 => by
    rw [f34_4_st_eq, f34_4_lp, show (fun x1 x2 x3 x4 x5 x6 x7 => roundsOf (E34 N) N34_4 4 B34_4 K n (fill f34_4_sh [.i x1, .i x2, .l x3, .l x4, .l x5, .l x6, .l x7])) = f34_4_lp N (fun y1 y2 y3 y4 y5 y6 y7 y8 => K (X.normal) (fill f34_4_ex1 [.b y1, .i y2, .i y3, .l y4, .l y5, .l y6, .l y7, .l y8])) n from by funext x1 x2 x3 x4 x5 x6 x7; exact f34_4_lp_eq N K n x1 x2 x3 x4 x5 x6 x7]
theorem f34_4_ok (N : Nat) (hlp : LoopsOk Try.prog (E34 N).lp B34_4) (hΓ : CtxOk Try.prog (E34 N).Γ) : LoopOk Try.prog (mkL N34_4 f34_4_sh (f34_4_F N)) 4 B34_4 := by
  refine loopOk_of (E := E34 N) thOk hΓ mixed hlp ?_
  intro R ls K r h
  unfold f34_4_F at h
  split at h
  · exact ⟨N, by rw [f34_4_lp_eq]; exact h⟩
  · cases h
theorem f34_0_st_eq {R : Type} (N : Nat) (K : X → AS → Option R) (n : Nat) (x1 : Int) (x2 : List Int) (x3 : List Int) (x4 : List Int) : roundsOf (E34 N) N34_0 0 B34_0 K (n + 1) (fill f34_0_sh [.i x1, .l x2, .l x3, .l x4]) = f34_0_st N (fun x1 x2 x3 x4 => roundsOf (E34 N) N34_0 0 B34_0 K n (fill f34_0_sh [.i x1, .l x2, .l x3, .l x4])) (fun y1 y2 y3 y4 y5 => K (X.normal) (fill f34_0_ex1 [.b y1, .i y2, .l y3, .l y4, .l y5])) x1 x2 x3 x4 := by kernel_rfl
theorem f34_0_lp_eq {R : Type} (N : Nat) (K : X → AS → Option R) : ∀ (n : Nat) (x1 : Int) (x2 : List Int) (x3 : List Int) (x4 : List Int), roundsOf (E34 N) N34_0 0 B34_0 K n (fill f34_0_sh [.i x1, .l x2, .l x3, .l x4]) = f34_0_lp N (fun y1 y2 y3 y4 y5 => K (X.normal) (fill f34_0_ex1 [.b y1, .i y2, .l y3, .l y4, .l y5])) n x1 x2 x3 x4
  | 0, _, _, _, _ => rfl
  | n + 1, x1, x2, x3, x4 => by
    rw [f34_0_st_eq, f34_0_lp, show (fun x1 x2 x3 x4 => roundsOf (E34 N) N34_0 0 B34_0 K n (fill f34_0_sh [.i x1, .l x2, .l x3, .l x4])) = f34_0_lp N (fun y1 y2 y3 y4 y5 => K (X.normal) (fill f34_0_ex1 [.b y1, .i y2, .l y3, .l y4, .l y5])) n from by funext x1 x2 x3 x4; exact f34_0_lp_eq N K n x1 x2 x3 x4]
theorem f34_0_ok (N : Nat) (hlp : LoopsOk Try.prog (E34 N).lp B34_0) (hΓ : CtxOk Try.prog (E34 N).Γ) : LoopOk Try.prog (mkL N34_0 f34_0_sh (f34_0_F N)) 0 B34_0 := by
  refine loopOk_of (E := E34 N) thOk hΓ mixed hlp ?_
  intro R ls K r h
  unfold f34_0_F at h
  split at h
  · exact ⟨N, by rw [f34_0_lp_eq]; exact h⟩
  · cases h

theorem lok34_4 (N : Nat) (hΓ : CtxOk Try.prog GRY) : LoopOk Try.prog (mkL N34_4 f34_4_sh (f34_4_F N)) 4 B34_4 := f34_4_ok N (loopsOk_of (l := []) (by kernel_rfl) trivial) hΓ
theorem lok34_2 (N : Nat) (hΓ : CtxOk Try.prog GRY) : LoopOk Try.prog (mkL N34_2 f34_2_sh (f34_2_F N)) 2 B34_2 := f34_2_ok N (loopsOk_of (l := []) (by kernel_rfl) trivial) hΓ
theorem lok34_0 (N : Nat) (hΓ : CtxOk Try.prog GRY) : LoopOk Try.prog (mkL N34_0 f34_0_sh (f34_0_F N)) 0 B34_0 := f34_0_ok N (loopsOk_of (l := [(2, B34_2), (4, B34_4)]) (by kernel_rfl) (allOk_cons (L := mkL N34_2 f34_2_sh (f34_2_F N)) rfl (lok34_2 N hΓ) (allOk_cons (L := mkL N34_4 f34_4_sh (f34_4_F N)) rfl (lok34_4 N hΓ) trivial))) hΓ
theorem f34_contract (N : Nat) (hΓ : CtxOk Try.prog GRY) : Contract Try.prog 34 { sig := S34, impl := fun _ ds k => call (E34 N) S34 83 B34 R34 ds k } :=
  call_contract (E := E34 N) thOk hΓ mixed ok34.look ok34.body ok34.n ok34.rv ok34.name rfl (by decide) (loopsOk_of (l := [(0, B34_0), (2, B34_2), (4, B34_4)]) (by kernel_rfl) (allOk_cons (L := mkL N34_0 f34_0_sh (f34_0_F N)) rfl (lok34_0 N hΓ) (allOk_cons (L := mkL N34_2 f34_2_sh (f34_2_F N)) rfl (lok34_2 N hΓ) (allOk_cons (L := mkL N34_4 f34_4_sh (f34_4_F N)) rfl (lok34_4 N hΓ) trivial))))
theorem f34_raw_eq {R : Type} (N : Nat) (xs : List Int) (ys : List Int) (k : List DV → Option R) : call (E34 N) S34 83 B34 R34 [.lst (.one .u8) 32 xs, .lst (.one .u8) 32 ys] k = f34_raw N xs ys k := by kernel_rfl
end Go.Proofs.Ytogcijgklnfjjaa

/- The document's coefficients of the polynomial through points. -/
namespace Go.Proofs.Ytogcijgklnfjjaa
open Go Go.Eng
set_option maxRecDepth 100000
set_option linter.unusedVariables false

theorem invN_zero : invN 0 = 0 := by
  rw [invN_def, powN_def, Nat.zero_pow (by rw [ell_def]; decide), Nat.zero_mod]
theorem iterF_congr {α : Type} {s t : Nat → α → α} : ∀ (m i : Nat) (g : α), (∀ k g, i ≤ k → k < i + m → s k g = t k g) → iterF s m i g = iterF t m i g
  | 0, _, _, _ => rfl
  | m + 1, i, g, h => by
    show iterF s m (i + 1) (s i g) = iterF t m (i + 1) (t i g)
    rw [h i g (by omega) (by omega)]
    exact iterF_congr m (i + 1) _ fun k g h1 h2 => h k g (by omega) (by omega)
theorem numF_arr {p : Nat → Nat} (hp : LtE p) {m i : Nat} (h : i < m) : numF (arrN p m) i = p i := by
  unfold numF; rw [arr_elF p h, vS_sN (hp i)]
theorem timesG_arr {p : Nat → Nat} (hp : LtE p) (a m : Nat) : timesG (numF (arrN p m)) a m = timesG p a m :=
  iterF_congr m 0 _ fun k g _ h2 => by unfold timesSt; rw [numF_arr hp (by omega)]

/-- a polynomial, so long, and the product of the places' differences -/
structure PB where
  p : Nat → Nat
  m : Nat
  b : Nat
noncomputable def coefIn (X : Nat → Nat) (i k : Nat) (s : PB) : PB := if k = i then s else ⟨timesG s.p (X k) s.m, s.m + 1, mulN s.b (difN (X i) (X k))⟩
noncomputable def onePB : PB := ⟨fun i => if i = 0 then 1 else 0, 1, 1⟩
noncomputable def basPB (X : Nat → Nat) (i n : Nat) : PB := iterF (coefIn X i) n 0 onePB
structure PBOk (s : PB) : Prop where
  p : LtE s.p
  b : s.b < ell
theorem onePB_ok : PBOk onePB := ⟨fun i => by unfold onePB; dsimp only; split; exact one_lt_ell; exact ell_pos, one_lt_ell⟩
theorem coefIn_ok {X : Nat → Nat} {i k : Nat} {s : PB} (h : PBOk s) : PBOk (coefIn X i k s) := by
  unfold coefIn; split
  · exact h
  · exact ⟨timesG_lt _ _ _, mulN_lt _ _⟩
theorem coefIn_m (X : Nat → Nat) (i : Nat) : ∀ (j k : Nat) (s : PB), (iterF (coefIn X i) j k s).m ≤ s.m + j
  | 0, _, _ => Nat.le_refl _
  | j + 1, k, s => by
    have := coefIn_m X i j (k + 1) (coefIn X i k s)
    show (iterF (coefIn X i) j (k + 1) (coefIn X i k s)).m ≤ _
    have h2 : (coefIn X i k s).m ≤ s.m + 1 := by unfold coefIn; split <;> simp
    omega
theorem coefIn_m2 (X : Nat → Nat) (i : Nat) : ∀ (j k : Nat) (s : PB), (iterF (coefIn X i) j k s).m + (if k ≤ i ∧ i < k + j then 1 else 0) = s.m + j
  | 0, k, s => by rw [if_neg (by omega)]; rfl
  | j + 1, k, s => by
    have ih := coefIn_m2 X i j (k + 1) (coefIn X i k s)
    show (iterF (coefIn X i) j (k + 1) (coefIn X i k s)).m + _ = _
    by_cases e : k = i
    · have h2 : (coefIn X i k s).m = s.m := by unfold coefIn; rw [if_pos e]
      rw [if_neg (by omega)] at ih
      rw [if_pos (by omega)]; omega
    · have h2 : (coefIn X i k s).m = s.m + 1 := by unfold coefIn; rw [if_neg e]
      by_cases h : k ≤ i ∧ i < k + (j + 1)
      · rw [if_pos (by omega)] at ih; rw [if_pos h]; omega
      · rw [if_neg (by omega)] at ih; rw [if_neg h]; omega
theorem basPB_m (X : Nat → Nat) {i n : Nat} (h : i < n) : (basPB X i n).m = n := by
  have := coefIn_m2 X i n 0 onePB
  rw [if_pos (by omega)] at this
  show (iterF (coefIn X i) n 0 onePB).m = n
  have e : onePB.m = 1 := rfl
  omega
theorem basPB_ok (X : Nat → Nat) (i n : Nat) : PBOk (basPB X i n) := iterF_inv (fun k g h => coefIn_ok h) _ _ _ onePB_ok

theorem bne_nat (a b : Nat) : ((a : Int) != (b : Int)) = !decide (a = b) := by
  by_cases h : a = b
  · subst h; simp
  · rw [decide_eq_false h]; simp; omega
theorem f34_in {R : Type} {N : Nat} (k1 : Bool → Int → Int → List Int → List Int → List Int → List Int → List Int → Option R) {xs ys out : List Int} {n i : Nat} (hx : okF xs = true) (hn : xs.length / 32 = n) (hi : i < n) (hb : n ≤ 30000) :
    ∀ j k : Nat, k + j = n → ∀ fuel, j < fuel → ∀ s : PB, PBOk s → s.m ≤ k + 1 →
      f34_2_lp N k1 fuel (i : Int) (k : Int) (arrN s.p s.m) xs ys (sN s.b) out =
        k1 false (i : Int) (n : Int) (arrN (iterF (coefIn (numF xs) i) j k s).p (iterF (coefIn (numF xs) i) j k s).m) xs ys (sN (iterF (coefIn (numF xs) i) j k s).b) out := by
  intro j
  induction j with
  | zero =>
    intro k h fuel hf s hs hm
    obtain ⟨f, rfl⟩ : ∃ f, fuel = f + 1 := ⟨fuel - 1, by omega⟩
    show f34_2_st N (f34_2_lp N _ f) _ _ _ _ _ _ _ _ = _
    unfold f34_2_st
    rw [rows32 hx, hn, ltF (by omega), cond_false, show k = n by omega]
    rfl
  | succ j ih =>
    intro k h fuel hf s hs hm
    obtain ⟨f, rfl⟩ : ∃ f, fuel = f + 1 := ⟨fuel - 1, by omega⟩
    show f34_2_st N (f34_2_lp N _ f) _ _ _ _ _ _ _ _ = _
    unfold f34_2_st
    have o1 := okF_el hx (i := k) (by omega)
    have o2 := okF_el hx (i := i) (by omega)
    have e1 : List.take 32 (List.drop (k * 32) xs) = elF xs k := rfl
    have e2 : List.take 32 (List.drop (i * 32) xs) = elF xs i := rfl
    rw [rows32 hx, hn, wAdd (by omega)]
    dsimp only
    rw [ltT (show k < n by omega), toN, toN, e1, e2, bne_nat, cond_true]
    show _ = k1 false (i : Int) (n : Int) (arrN (iterF (coefIn (numF xs) i) j (k + 1) (coefIn (numF xs) i k s)).p (iterF (coefIn (numF xs) i) j (k + 1) (coefIn (numF xs) i k s)).m) xs ys (sN (iterF (coefIn (numF xs) i) j (k + 1) (coefIn (numF xs) i k s)).b) out
    by_cases e : k = i
    · rw [decide_eq_true e, Bool.not_true, cond_false]
      have e3 : coefIn (numF xs) i k s = s := by unfold coefIn; rw [if_pos e]
      rw [e3]
      exact ih (k + 1) (by omega) f (by omega) s hs (by omega)
    · have e3 : coefIn (numF xs) i k s = ⟨timesG s.p (numF xs k) s.m, s.m + 1, mulN s.b (difN (numF xs i) (numF xs k))⟩ := by unfold coefIn; rw [if_neg e]
      rw [decide_eq_false e, Bool.not_false, cond_true, ge0, ge0, ltT (show i < n by omega), o1, o2, okB_sN, okB_sN, arr_okF (by omega), arr_div, vS_sN (difN_lt _ _), vS_sN hs.b, timesG_arr hs.p]
      simp only [Bool.and_self, cond_true]
      rw [e3]
      exact ih (k + 1) (by omega) f (by omega) ⟨timesG s.p (numF xs k) s.m, s.m + 1, mulN s.b (difN (numF xs i) (numF xs k))⟩ ⟨timesG_lt _ _ _, mulN_lt _ _⟩ (by show s.m + 1 ≤ k + 1 + 1; omega)

noncomputable def addSt (f : Nat) (p : Nat → Nat) (k : Nat) (g : Nat → Nat) : Nat → Nat := upd g k (addN (mulN f (p k)) (g k))
theorem f34_add {R : Type} {N : Nat} (k1 : Bool → Int → Int → List Int → List Int → List Int → List Int → List Int → Option R) {xs ys : List Int} {n m f0 i : Nat} {p : Nat → Nat} (hp : LtE p) (hf0 : f0 < ell) (hmn : m ≤ n) (hb : n ≤ 30000) :
    ∀ j k : Nat, k + j = m → ∀ fuel, j < fuel → ∀ g, LtE g →
      f34_4_lp N k1 fuel (i : Int) (k : Int) xs ys (sN f0) (arrN g n) (arrN p m) = k1 false (i : Int) (m : Int) xs ys (sN f0) (arrN (iterF (addSt f0 p) j k g) n) (arrN p m) := by
  intro j
  induction j with
  | zero =>
    intro k h fuel hf g hg
    obtain ⟨f, rfl⟩ : ∃ f, fuel = f + 1 := ⟨fuel - 1, by omega⟩
    show f34_4_st N (f34_4_lp N _ f) _ _ _ _ _ _ _ _ = _
    unfold f34_4_st
    rw [arr_rows, ltF (by omega), cond_false, show k = m by omega]
    rfl
  | succ j ih =>
    intro k h fuel hf g hg
    obtain ⟨f, rfl⟩ : ∃ f, fuel = f + 1 := ⟨fuel - 1, by omega⟩
    show f34_4_st N (f34_4_lp N _ f) _ _ _ _ _ _ _ _ = _
    unfold f34_4_st
    rw [wAdd (by omega)]
    dsimp only
    rw [arr_rows, arr_rows, ltT (show k < m by omega), toN, ltT (show k < n by omega), ge0, arr_el p (show k < m by omega), arr_el g (show k < n by omega), okB_sN, okB_sN, okB_sN, vS_sN hf0, vS_sN (hp k), vS_sN (hg k), arr_set g _ (show k < n by omega)]
    simp only [Bool.and_self, cond_true]
    exact ih (k + 1) (by omega) f (by omega) _ (hg.upd (addN_lt _ _) _)

noncomputable def coefSt (X Y : Nat → Nat) (n i : Nat) (g : Nat → Nat) : Nat → Nat :=
  iterF (addSt (mulN (Y i) (invN (basPB X i n).b)) (basPB X i n).p) n 0 g
theorem coefSt_lt {X Y : Nat → Nat} {n i : Nat} {g : Nat → Nat} (h : LtE g) : LtE (coefSt X Y n i g) := iterF_inv (fun k g h => h.upd (addN_lt _ _) _) _ _ _ h
noncomputable def coefG (X Y : Nat → Nat) (n : Nat) : Nat → Nat := iterF (coefSt X Y n) n 0 (fun _ => 0)
theorem coefG_lt (X Y : Nat → Nat) (n : Nat) : LtE (coefG X Y n) := iterF_inv (fun k g h => coefSt_lt h) _ _ _ ltE_zero

theorem one_arr : splice (zerosOf (1 * 32)) (Off.at (0 * 32)) (sN (Int.toNat 1)) = arrN onePB.p 1 := by
  rw [arr_zero 1, arr_set (fun _ => 0) (Int.toNat 1) (show 0 < 1 by omega)]
  exact arr_congr fun i hi => by
    have : i = 0 := by omega
    subst this; rfl
theorem f34_out {R : Type} {N : Nat} (K : List Int → Option R) {xs ys : List Int} {n : Nat} (hx : okF xs = true) (hy : okF ys = true) (hn : xs.length / 32 = n) (hm : ys.length / 32 = n) (hb : n ≤ 30000) (hN : n < N) :
    ∀ j i : Nat, i + j = n → ∀ fuel, j < fuel → ∀ g, LtE g → f34_0_lp N (fun _ _ _ _ w5 => K w5) fuel (i : Int) xs ys (arrN g n) = K (arrN (iterF (coefSt (numF xs) (numF ys) n) j i g) n) := by
  intro j
  induction j with
  | zero =>
    intro i h fuel hf g hg
    obtain ⟨f, rfl⟩ : ∃ f, fuel = f + 1 := ⟨fuel - 1, by omega⟩
    show f34_0_st N (f34_0_lp N _ f) _ _ _ _ _ = _
    unfold f34_0_st
    rw [rows32 hx, hn, ltF (by omega), cond_false]
    rfl
  | succ j ih =>
    intro i h fuel hf g hg
    obtain ⟨f, rfl⟩ : ∃ f, fuel = f + 1 := ⟨fuel - 1, by omega⟩
    show f34_0_st N (f34_0_lp N _ f) _ _ _ _ _ = _
    unfold f34_0_st
    have o2 := okF_el hy (i := i) (by omega)
    have hok := basPB_ok (numF xs) i n
    have hmm := basPB_m (numF xs) (show i < n by omega)
    rw [rows32 hx, hn, ltT (show i < n by omega), cond_true]
    dsimp only
    rw [one_arr]
    refine (f34_in (N := N) _ (xs := xs) (ys := ys) (out := arrN g n) hx hn (show i < n by omega) hb n 0 (by omega) N (by omega) onePB onePB_ok (by show (1 : Nat) ≤ 1; omega)).trans ?_
    rw [show iterF (coefIn (numF xs) i) n 0 onePB = basPB (numF xs) i n from rfl]
    have e2 : List.take 32 (List.drop (i * 32) ys) = elF ys i := rfl
    rw [okB_sN, cond_true, vS_sN hok.b, toN, e2, rows32 hy, hm, ge0, ltT (show i < n by omega), o2, okB_sN]
    have hz : okB (List.replicate 32 (0 : Int)) = true := by rw [b_zero']; exact okB_sN 0
    have hv0 : vS (List.replicate 32 (0 : Int)) = 0 := by rw [b_zero']; exact vS_sN ell_pos
    have last := ih (i + 1) (by omega) f (by omega) (coefSt (numF xs) (numF ys) n i g) (coefSt_lt hg)
    rw [hz, hv0]
    simp only [Bool.and_self, cond_true]
    by_cases hb0 : (basPB (numF xs) i n).b = 0
    · rw [decide_eq_true hb0, cond_true, hmm]
      refine (f34_add _ hok.p (mulN_lt _ _) (Nat.le_refl n) hb n 0 (by omega) N (by omega) g hg).trans ?_
      rw [wAdd (by omega)]
      have e3 : mulN (vS (elF ys i)) 0 = mulN (numF ys i) (invN (basPB (numF xs) i n).b) := by rw [hb0, invN_zero]; rfl
      rw [e3]
      exact last
    · rw [decide_eq_false hb0, cond_false, vS_sN (invN_lt _), hmm]
      refine (f34_add _ hok.p (mulN_lt _ _) (Nat.le_refl n) hb n 0 (by omega) N (by omega) g hg).trans ?_
      rw [wAdd (by omega)]
      exact last
noncomputable def I34 : (R : Type) → List DV → (List DV → Option R) → Option R := fun _ ds k => match ds with
  | [.lst (.one .u8) 32 xs, .lst (.one .u8) 32 ys] => bif okF xs && (okF ys && (Nat.beq (xs.length / 32) (ys.length / 32) && Nat.ble (xs.length / 32) 30000)) then k [.lst (.one .u8) 32 (arrN (coefG (numF xs) (numF ys) (xs.length / 32)) (xs.length / 32))] else none
  | _ => none
theorem c34 : Contract Try.prog 34 { sig := S34, impl := I34 } := by
  refine Contract.refine fun R ds k r h => ?_
  unfold I34 at h
  split at h
  · rename_i xs ys
    refine ⟨_, f34_contract (xs.length / 32 + 1) GRY_ok, ?_⟩
    cases hc : okF xs && (okF ys && (Nat.beq (xs.length / 32) (ys.length / 32) && Nat.ble (xs.length / 32) 30000)) with
    | false => rw [hc] at h; cases h
    | true =>
      rw [hc, cond_true] at h
      simp only [Bool.and_eq_true] at hc
      obtain ⟨h1, h2, h3, h4⟩ := hc
      have h3 := Nat.eq_of_beq_eq_true h3
      have h4 := Nat.le_of_ble_eq_true h4
      rw [f34_raw_eq]
      unfold f34_raw
      rw [rows32 h1]
      have e1 : (decide (0 ≤ ((xs.length / 32 : Nat) : Int)) && (decide (((xs.length / 32 : Nat) : Int) ≤ ((xs.length / 32 : Nat) : Int)) && (decide (((xs.length / 32 : Nat) : Int) ≤ 281474976710656) && decide (((xs.length / 32 : Nat) : Int) * 32 ≤ 281474976710656)))) = true := by
        simp only [Bool.and_eq_true, decide_eq_true_eq]; omega
      rw [e1, cond_true, toN, arr_zero]
      exact (f34_out (N := xs.length / 32 + 1) (fun w => k [DV.lst (RK.one IntKind.u8) 32 w]) h1 h2 rfl h3.symm h4 (by omega) (xs.length / 32) 0 (by omega) (xs.length / 32 + 1) (by omega) _ ltE_zero).trans h
  · exact (Option.some_ne_none _ h.symm).elim
noncomputable def GRW : Ctx := (34, { sig := S34, impl := I34 }) :: GRY
theorem GRW_ok : CtxOk Try.prog GRW := ctxOk_cons ok34 rfl c34 GRY_ok
end Go.Proofs.Ytogcijgklnfjjaa

/- The program's coefficients of the polynomial through points: Newton's way. -/
namespace Go.Proofs.Ytogcijgklnfjjaa
open Go Go.Eng
set_option maxRecDepth 100000
set_option linter.unusedVariables false

/-! ### points -/
def ptX (p : List Int) (i : Nat) : List Int := List.take 32 (List.drop (i * 64) p)
def ptY (p : List Int) (i : Nat) : List Int := List.take 32 (List.drop (i * 64 + 32) p)
def okP (p : List Int) : Bool := (Nat.beq (p.length % 64) 0 && Nat.ble p.length 1073741824) && p.all fun b => decide (0 ≤ b) && decide (b < 256)
theorem okP_n {p : List Int} (h : okP p = true) : p.length = (p.length / 64) * 64 ∧ p.length ≤ 1073741824 := by
  unfold okP at h
  simp only [Bool.and_eq_true] at h
  have h1 := Nat.eq_of_beq_eq_true h.1.1
  have h2 := Nat.le_of_ble_eq_true h.1.2
  omega
theorem okB_take {p : List Int} (h : p.all (fun b => decide (0 ≤ b) && decide (b < 256)) = true) {e : Nat} (he : e + 32 ≤ p.length) : okB (List.take 32 (List.drop e p)) = true := by
  have h3 := List.all_eq_true.1 h
  unfold okB
  rw [decide_eq_true (by rw [List.length_take, List.length_drop]; omega), Bool.true_and, List.all_eq_true]
  intro b hb
  exact h3 b (List.mem_of_mem_drop (List.mem_of_mem_take hb))
theorem okP_x {p : List Int} (h : okP p = true) {i : Nat} (hi : i < p.length / 64) : okB (ptX p i) = true := by
  have hn := okP_n h
  unfold okP at h
  rw [Bool.and_eq_true] at h
  exact okB_take h.2 (by omega)
theorem okP_y {p : List Int} (h : okP p = true) {i : Nat} (hi : i < p.length / 64) : okB (ptY p i) = true := by
  have hn := okP_n h
  unfold okP at h
  rw [Bool.and_eq_true] at h
  exact okB_take h.2 (by omega)
theorem rows64 (p : List Int) : nI (rowLen 64 p) = ((p.length / 64 : Nat) : Int) := rfl
noncomputable def pX (p : List Int) (i : Nat) : Nat := vS (ptX p i)
noncomputable def pY (p : List Int) (i : Nat) : Nat := vS (ptY p i)
theorem pX_lt (p : List Int) : LtE (pX p) := fun _ => vS_lt _
theorem pY_lt (p : List Int) : LtE (pY p) := fun _ => vS_lt _

/-! ### is one seen again? -/
def dupAll (key : Nat → List Int) : Nat → Nat → Bool
  | 0, _ => false
  | j + 1, i => hasK key (key i) i || dupAll key j (i + 1)
theorem dupAll_iff {key : Nat → List Int} : ∀ {j i}, dupAll key j i = true ↔ ∃ a b, a < b ∧ i ≤ b ∧ b < i + j ∧ key a = key b
  | 0, i => by
    simp only [dupAll, Bool.false_eq_true, false_iff]
    rintro ⟨a, b, h1, h2, h3, _⟩; omega
  | j + 1, i => by
    unfold dupAll
    rw [Bool.or_eq_true, hasK_iff, dupAll_iff (j := j)]
    constructor
    · rintro (⟨a, h1, h2⟩ | ⟨a, b, h1, h2, h3, h4⟩)
      · exact ⟨a, i, h1, by omega, by omega, h2⟩
      · exact ⟨a, b, h1, by omega, by omega, h4⟩
    · rintro ⟨a, b, h1, h2, h3, h4⟩
      by_cases e : b = i
      · subst e; exact .inl ⟨a, h1, h4⟩
      · exact .inr ⟨a, b, h1, by omega, by omega, h4⟩
noncomputable def keyP (p : List Int) (i : Nat) : List Int := sN (pX p i)
noncomputable def dupsP (p : List Int) : Bool := dupAll (keyP p) (p.length / 64) 0

theorem f9_seen {R : Type} {N : Nat} (K : Int → Option R) (k2 : Bool → Int → Int → List Int → List (List Int) → Option R) {p : List Int} {n : Nat} (hp : okP p = true) (hn : p.length / 64 = n) (hb : n ≤ 30000) :
    ∀ j i : Nat, i + j = n → ∀ fuel, j < fuel → f9_0_lp N (fun w _ _ _ _ _ _ _ _ _ _ => K w) k2 fuel (n : Int) (i : Int) p (seenG (keyP p) i) =
      bif dupAll (keyP p) j i then K 5 else k2 false (n : Int) (n : Int) p (seenG (keyP p) n) := by
  intro j
  induction j with
  | zero =>
    intro i h fuel hf
    obtain ⟨f, rfl⟩ : ∃ f, fuel = f + 1 := ⟨fuel - 1, by omega⟩
    show f9_0_st N (f9_0_lp N _ _ f) _ _ _ _ _ _ = _
    unfold f9_0_st
    rw [ltF (by omega), cond_false, show i = n by omega]
    rfl
  | succ j ih =>
    intro i h fuel hf
    obtain ⟨f, rfl⟩ : ∃ f, fuel = f + 1 := ⟨fuel - 1, by omega⟩
    show f9_0_st N (f9_0_lp N _ _ f) _ _ _ _ _ _ = _
    unfold f9_0_st
    have e1 : List.take 32 (List.drop (Int.toNat (i : Int) * 64 + 0) p) = ptX p i := rfl
    have hk : sN (addN (vS (ptX p i)) (vS (List.replicate 32 (0 : Int)))) = keyP p i := by
      rw [b_zero', vS_sN ell_pos, addN_zero (vS_lt _)]; rfl
    have hz : okB (List.replicate 32 (0 : Int)) = true := by rw [b_zero']; exact okB_sN 0
    rw [ltT (show i < n by omega), rows64, hn, ge0, ltT (show i < n by omega), e1, okP_x hp (by omega), hz, hk, seen_has, wAdd (by omega)]
    simp only [Bool.and_self, cond_true]
    unfold dupAll
    cases hasK (keyP p) (keyP p i) i with
    | true => rfl
    | false =>
      rw [cond_false, Bool.false_or]
      exact ih (i + 1) (by omega) f (by omega)

theorem f9_ys {R : Type} {N : Nat} (k1 : Bool → Int → Int → Int → List Int → List Int → Option R) {p : List Int} {n : Nat} (hp : okP p = true) (hn : p.length / 64 = n) (hb : n ≤ 30000) :
    ∀ j i : Nat, i + j = n → ∀ fuel, j < fuel → ∀ g, LtE g → f9_2_lp N k1 fuel (n : Int) (n : Int) (i : Int) p (arrN g n) = k1 false (n : Int) (n : Int) (n : Int) p (arrN (iterF (fun i g => upd g i (pY p i)) j i g) n) := by
  intro j
  induction j with
  | zero =>
    intro i h fuel hf g hg
    obtain ⟨f, rfl⟩ : ∃ f, fuel = f + 1 := ⟨fuel - 1, by omega⟩
    show f9_2_st N (f9_2_lp N _ f) _ _ _ _ _ _ = _
    unfold f9_2_st
    rw [ltF (by omega), cond_false, show i = n by omega]
    rfl
  | succ j ih =>
    intro i h fuel hf g hg
    obtain ⟨f, rfl⟩ : ∃ f, fuel = f + 1 := ⟨fuel - 1, by omega⟩
    show f9_2_st N (f9_2_lp N _ f) _ _ _ _ _ _ = _
    unfold f9_2_st
    have e1 : List.take 32 (List.drop (Int.toNat (i : Int) * 64 + (0 + 32)) p) = ptY p i := rfl
    have hk : addN (vS (ptY p i)) (vS (List.replicate 32 (0 : Int))) = pY p i := by
      rw [b_zero', vS_sN ell_pos, addN_zero (vS_lt _)]; rfl
    have hz : okB (List.replicate 32 (0 : Int)) = true := by rw [b_zero']; exact okB_sN 0
    rw [ltT (show i < n by omega), rows64, hn, ge0, ltT (show i < n by omega), e1, okP_y hp (by omega), hz, hk, arr_rows, ltT (show i < n by omega), wAdd (by omega), toN, arr_set g _ (show i < n by omega)]
    simp only [Bool.and_self, cond_true]
    exact ih (i + 1) (by omega) f (by omega) _ (hg.upd (vS_lt _) _)

/-- downwards: so many steps from the base on -/
def downF {α : Type} (step : Nat → α → α) (k : Nat) : Nat → α → α
  | 0, g => g
  | m + 1, g => downF step k m (step (k + m) g)
theorem downF_inv {α : Type} {P : α → Prop} {step : Nat → α → α} (hs : ∀ i g, P g → P (step i g)) (k : Nat) : ∀ (m : Nat) (g : α), P g → P (downF step k m g)
  | 0, _, h => h
  | m + 1, g, h => downF_inv hs k m _ (hs _ g h)

noncomputable def ddSt (X : Nat → Nat) (k i : Nat) (g : Nat → Nat) : Nat → Nat := upd g i (mulN (difN (g i) (g (i - 1))) (invN (difN (X i) (X (i - k)))))
theorem f9_dd {R : Type} {N : Nat} (k1 : Bool → Int → Int → Int → List Int → List Int → Option R) {p : List Int} {n k : Nat} (hp : okP p = true) (hn : p.length / 64 = n) (hb : n ≤ 30000) (hk : 1 ≤ k) :
    ∀ m : Nat, k + m ≤ n → ∀ fuel, m < fuel → ∀ g, LtE g → f9_6_lp N k1 fuel (n : Int) (k : Int) (((k + m : Nat) : Int) - 1) p (arrN g n) = k1 false (n : Int) (k : Int) ((k : Int) - 1) p (arrN (downF (ddSt (pX p) k) k m g) n) := by
  intro m
  induction m with
  | zero =>
    intro h fuel hf g hg
    obtain ⟨f, rfl⟩ : ∃ f, fuel = f + 1 := ⟨fuel - 1, by omega⟩
    show f9_6_st N (f9_6_lp N _ f) _ _ _ _ _ _ = _
    unfold f9_6_st
    rw [decide_eq_false (show ¬ (((k + 0 : Nat) : Int) - 1 ≥ (k : Int)) by omega), cond_false]
    rfl
  | succ m ih =>
    intro h fuel hf g hg
    obtain ⟨f, rfl⟩ : ∃ f, fuel = f + 1 := ⟨fuel - 1, by omega⟩
    show f9_6_st N (f9_6_lp N _ f) _ _ _ _ _ _ = _
    unfold f9_6_st
    rw [show ((k + (m + 1) : Nat) : Int) - 1 = ((k + m : Nat) : Int) by omega]
    have w1 : IntKind.i64.wrap (((k + m : Nat) : Int) - (k : Int)) = (m : Int) := by
      rw [show ((k + m : Nat) : Int) - (k : Int) = (m : Int) by omega]; exact wi64 (by omega)
    obtain ⟨q, hq⟩ : ∃ q, k + m = q + 1 := ⟨k + m - 1, by omega⟩
    have w2 : IntKind.i64.wrap (((k + m : Nat) : Int) - 1) = (q : Int) := by rw [hq]; exact wSub (by omega)
    have e1 : List.take 32 (List.drop (Int.toNat ((k + m : Nat) : Int) * 64 + (0 + 0)) p) = ptX p (k + m) := rfl
    have e2 : List.take 32 (List.drop (Int.toNat (m : Int) * 64 + (0 + 0)) p) = ptX p m := rfl
    have hz : okB (List.replicate 32 (0 : Int)) = true := by rw [b_zero']; exact okB_sN 0
    have hv0 : vS (List.replicate 32 (0 : Int)) = 0 := by rw [b_zero']; exact vS_sN ell_pos
    rw [w1, w2]
    dsimp only
    rw [decide_eq_true (show ((k + m : Nat) : Int) ≥ (k : Int) by omega), rows64, hn, ge0, ltT (show k + m < n by omega), ge0, ltT (show m < n by omega), e1, e2, okP_x hp (by omega), okP_x hp (by omega), okB_sN, vS_sN (difN_lt _ _),
      arr_rows, ge0, ltT (show q < n by omega), ltT (show k + m < n by omega), toN, toN, arr_el g (show k + m < n by omega), arr_el g (show q < n by omega), okB_sN, okB_sN, okB_sN, hz, okB_sN, vS_sN (hg _), vS_sN (hg _), vS_sN (difN_lt _ _), hv0, vS_sN (invN_lt _)]
    simp only [Bool.and_self, cond_true]
    rw [arr_set g _ (show k + m < n by omega), arr_set g _ (show k + m < n by omega)]
    have hstep : ddSt (pX p) k (k + m) g = upd g (k + m) (mulN (difN (g (k + m)) (g q)) (invN (difN (vS (ptX p (k + m))) (vS (ptX p m))))) := by
      unfold ddSt
      rw [show k + m - 1 = q by omega, show k + m - k = m by omega]; rfl
    have hd : downF (ddSt (pX p) k) k (m + 1) g = downF (ddSt (pX p) k) k m (ddSt (pX p) k (k + m) g) := rfl
    have hq2 : (q : Int) = ((k + m : Nat) : Int) - 1 := by omega
    rw [hd]
    by_cases h0 : difN (vS (ptX p (k + m))) (vS (ptX p m)) = 0
    · rw [decide_eq_true h0, cond_true]
      rw [h0, invN_zero] at hstep
      rw [← hstep, hq2]
      exact ih (by omega) f (by omega) _ (hg.upd (mulN_lt _ _) _)
    · rw [decide_eq_false h0, cond_false, ← hstep, hq2]
      exact ih (by omega) f (by omega) _ (hg.upd (mulN_lt _ _) _)

noncomputable def ddPass (X : Nat → Nat) (n k : Nat) (g : Nat → Nat) : Nat → Nat := downF (ddSt X k) k (n - k) g
theorem ddPass_lt {X : Nat → Nat} {n k : Nat} {g : Nat → Nat} (h : LtE g) : LtE (ddPass X n k g) := downF_inv (fun i g h => h.upd (mulN_lt _ _) _) _ _ _ h
theorem f9_passes {R : Type} {N : Nat} (k1 : Bool → Int → Int → List Int → List Int → Option R) {p : List Int} {n : Nat} (hp : okP p = true) (hn : p.length / 64 = n) (hb : n ≤ 30000) (hN : n < N) (h1n : 1 ≤ n) :
    ∀ j k : Nat, k + j = n → 1 ≤ k → ∀ fuel, j < fuel → ∀ g, LtE g → f9_4_lp N k1 fuel (n : Int) (k : Int) p (arrN g n) = k1 false (n : Int) (n : Int) p (arrN (iterF (ddPass (pX p) n) j k g) n) := by
  intro j
  induction j with
  | zero =>
    intro k h hk fuel hf g hg
    obtain ⟨f, rfl⟩ : ∃ f, fuel = f + 1 := ⟨fuel - 1, by omega⟩
    show f9_4_st N (f9_4_lp N _ f) _ _ _ _ _ = _
    unfold f9_4_st
    rw [ltF (by omega), cond_false, show k = n by omega]
    rfl
  | succ j ih =>
    intro k h hk fuel hf g hg
    obtain ⟨f, rfl⟩ : ∃ f, fuel = f + 1 := ⟨fuel - 1, by omega⟩
    show f9_4_st N (f9_4_lp N _ f) _ _ _ _ _ = _
    unfold f9_4_st
    obtain ⟨q, hq⟩ : ∃ q, n = q + 1 := ⟨n - 1, by omega⟩
    have w2 : IntKind.i64.wrap ((n : Int) - 1) = ((k + (n - k) : Nat) : Int) - 1 := by
      rw [show ((k + (n - k) : Nat) : Int) - 1 = (q : Int) by omega, hq]; exact wSub (by omega)
    rw [ltT (show k < n by omega), cond_true, w2]
    refine (f9_dd _ hp hn hb hk (n - k) (by omega) N (by omega) g hg).trans ?_
    rw [wAdd (by omega)]
    exact ih (k + 1) (by omega) (by omega) f (by omega) _ (ddPass_lt hg)

/-- times (x - X k) -/
noncomputable def upSt (X : Nat → Nat) (k i : Nat) (g : Nat → Nat) : Nat → Nat := upd g i (difN (g (i - 1)) (mulN (g i) (X k)))
theorem f9_up {R : Type} {N : Nat} (k1 : Bool → Int → Int → Int → List Int → List Int → List Int → Option R) {p D : List Int} {n k : Nat} (hp : okP p = true) (hn : p.length / 64 = n) (hb : n ≤ 30000) (hk : k < n) :
    ∀ m : Nat, m + 1 ≤ n → ∀ fuel, m < fuel → ∀ g, LtE g → f9_10_lp N k1 fuel (n : Int) (k : Int) (m : Int) p D (arrN g n) = k1 false (n : Int) (k : Int) 0 p D (arrN (downF (upSt (pX p) k) 1 m g) n) := by
  intro m
  induction m with
  | zero =>
    intro h fuel hf g hg
    obtain ⟨f, rfl⟩ : ∃ f, fuel = f + 1 := ⟨fuel - 1, by omega⟩
    show f9_10_st N (f9_10_lp N _ f) _ _ _ _ _ _ _ = _
    unfold f9_10_st
    rw [decide_eq_false (show ¬ (((0 : Nat) : Int) > 0) by omega), cond_false]
    rfl
  | succ m ih =>
    intro h fuel hf g hg
    obtain ⟨f, rfl⟩ : ∃ f, fuel = f + 1 := ⟨fuel - 1, by omega⟩
    show f9_10_st N (f9_10_lp N _ f) _ _ _ _ _ _ _ = _
    unfold f9_10_st
    have e1 : List.take 32 (List.drop (Int.toNat (k : Int) * 64 + (0 + 0)) p) = ptX p k := rfl
    rw [decide_eq_true (show ((m + 1 : Nat) : Int) > 0 by omega), wSub (by omega)]
    dsimp only
    rw [rows64, hn, ge0, ge0, ge0, ltT (show k < n by omega), arr_rows, ltT (show m < n by omega), ltT (show m + 1 < n by omega), toN, toN, e1, arr_el g (show m + 1 < n by omega), arr_el g (show m < n by omega), okP_x hp (by omega), okB_sN, okB_sN, okB_sN, vS_sN (hg _), vS_sN (hg _), vS_sN (mulN_lt _ _), arr_set g _ (show m + 1 < n by omega)]
    simp only [Bool.and_self, cond_true]
    have hstep : upSt (pX p) k (1 + m) g = upd g (m + 1) (difN (g m) (mulN (g (m + 1)) (vS (ptX p k)))) := by
      unfold upSt
      rw [show 1 + m - 1 = m by omega, show 1 + m = m + 1 by omega]; rfl
    have hd : downF (upSt (pX p) k) 1 (m + 1) g = downF (upSt (pX p) k) 1 m (upSt (pX p) k (1 + m) g) := rfl
    rw [hd, hstep]
    exact ih (by omega) f (by omega) _ (hg.upd (difN_lt _ _) _)

noncomputable def outSt (X D : Nat → Nat) (n k : Nat) (g : Nat → Nat) : Nat → Nat :=
  upd (downF (upSt X k) 1 (n - 1) g) 0 (difN (D k) (mulN (downF (upSt X k) 1 (n - 1) g 0) (X k)))
theorem outSt_lt {X D : Nat → Nat} {n k : Nat} {g : Nat → Nat} (h : LtE g) : LtE (outSt X D n k g) := (downF_inv (P := LtE) (fun i g h => h.upd (difN_lt _ _) _) _ _ _ h).upd (difN_lt _ _) _
theorem f9_outs {R : Type} {N : Nat} (k1 : Bool → Int → Int → List Int → List Int → List Int → Option R) {p : List Int} {D : Nat → Nat} {n : Nat} (hp : okP p = true) (hn : p.length / 64 = n) (hb : n ≤ 30000) (hN : n < N) (h1n : 1 ≤ n) (hD : LtE D) :
    ∀ m : Nat, m ≤ n → ∀ fuel, m < fuel → ∀ g, LtE g → f9_8_lp N k1 fuel (n : Int) ((m : Int) - 1) p (arrN D n) (arrN g n) = k1 false (n : Int) (-1) p (arrN D n) (arrN (downF (outSt (pX p) D n) 0 m g) n) := by
  intro m
  induction m with
  | zero =>
    intro h fuel hf g hg
    obtain ⟨f, rfl⟩ : ∃ f, fuel = f + 1 := ⟨fuel - 1, by omega⟩
    show f9_8_st N (f9_8_lp N _ f) _ _ _ _ _ _ = _
    unfold f9_8_st
    rw [decide_eq_false (show ¬ (((0 : Nat) : Int) - 1 ≥ 0) by omega), cond_false]
    rfl
  | succ m ih =>
    intro h fuel hf g hg
    obtain ⟨f, rfl⟩ : ∃ f, fuel = f + 1 := ⟨fuel - 1, by omega⟩
    show f9_8_st N (f9_8_lp N _ f) _ _ _ _ _ _ = _
    unfold f9_8_st
    obtain ⟨q, hq⟩ : ∃ q, n = q + 1 := ⟨n - 1, by omega⟩
    have w2 : IntKind.i64.wrap ((n : Int) - 1) = ((n - 1 : Nat) : Int) := by
      rw [show ((n - 1 : Nat) : Int) = (q : Int) by omega, hq]; exact wSub (by omega)
    have g1lt : LtE (downF (upSt (pX p) m) 1 (n - 1) g) := downF_inv (P := LtE) (fun i g h => h.upd (difN_lt _ _) _) _ _ _ hg
    rw [show ((m + 1 : Nat) : Int) - 1 = (m : Int) by omega, decide_eq_true (show (m : Int) ≥ 0 by omega), cond_true, w2]
    refine (f9_up _ hp hn hb (show m < n by omega) (n - 1) (by omega) N (by omega) g hg).trans ?_
    have e1 : List.take 32 (List.drop (Int.toNat (m : Int) * 64 + (0 + 0)) p) = ptX p m := rfl
    have w3 : IntKind.i64.wrap ((m : Int) - 1) = (m : Int) - 1 := wrapI (by omega) (by omega)
    have e0 : mulE (Int.toNat 0) 32 = 0 * 32 := rfl
    rw [rows64, hn, ge0, ltT (show m < n by omega), arr_rows, arr_rows, ltT (show m < n by omega), show decide ((0 : Nat) ≤ 0) = true from rfl, decide_eq_true (show (0 : Int) < (n : Int) by omega), e1, e0, toN, arr_el _ (show 0 < n by omega), arr_el D (show m < n by omega), okP_x hp (by omega), okB_sN, okB_sN, okB_sN,
      vS_sN (hD _), vS_sN (g1lt _), vS_sN (mulN_lt _ _), arr_set _ _ (show 0 < n by omega), w3]
    simp only [Bool.and_self, cond_true]
    have hstep : outSt (pX p) D n (0 + m) g = upd (downF (upSt (pX p) m) 1 (n - 1) g) 0 (difN (D m) (mulN (downF (upSt (pX p) m) 1 (n - 1) g 0) (vS (ptX p m)))) := by
      unfold outSt
      rw [show 0 + m = m by omega]; rfl
    have hd : downF (outSt (pX p) D n) 0 (m + 1) g = downF (outSt (pX p) D n) 0 m (outSt (pX p) D n (0 + m) g) := rfl
    rw [hd, ← hstep]
    exact ih (by omega) f (by omega) _ (outSt_lt hg)

noncomputable def ysG (Y : Nat → Nat) (n : Nat) : Nat → Nat := iterF (fun i g => upd g i (Y i)) n 0 (fun _ => 0)
noncomputable def ddG (X Y : Nat → Nat) (n : Nat) : Nat → Nat := iterF (ddPass X n) (n - 1) 1 (ysG Y n)
noncomputable def newtG (X Y : Nat → Nat) (n : Nat) : Nat → Nat := downF (outSt X (ddG X Y n) n) 0 n (fun _ => 0)
theorem ysG_lt {Y : Nat → Nat} (h : LtE Y) (n : Nat) : LtE (ysG Y n) := iterF_inv (fun i g hg => hg.upd (h i) _) _ _ _ ltE_zero
theorem ddG_lt {X Y : Nat → Nat} (h : LtE Y) (n : Nat) : LtE (ddG X Y n) := iterF_inv (fun i g hg => ddPass_lt hg) _ _ _ (ysG_lt h n)
theorem newtG_lt (X Y : Nat → Nat) (n : Nat) : LtE (newtG X Y n) := downF_inv (fun i g hg => outSt_lt hg) _ _ _ ltE_zero

noncomputable def badP (p : List Int) : Bool := decide (p.length / 64 = 0) || decide (p.length / 64 > 255)
noncomputable def I9 : (R : Type) → List DV → (List DV → Option R) → Option R := fun _ ds k => match ds with
  | [.lst (.mix l) 64 p] => match cksEq l ck32 with
    | true => bif okP p then (bif badP p then k [.lst (.one .u8) 32 [], .v (.one (.int .i64 8))] else bif dupsP p then k [.lst (.one .u8) 32 [], .v (.one (.int .i64 5))]
        else k [.lst (.one .u8) 32 (arrN (newtG (pX p) (pY p) (p.length / 64)) (p.length / 64)), .v (.one (.int .i64 0))]) else none
    | false => none
  | _ => none
theorem c9 : Contract Try.prog 9 { sig := S9, impl := I9 } := by
  refine Contract.refine fun R ds k r h => ?_
  unfold I9 at h
  split at h
  · rename_i l p
    refine ⟨_, f9_contract (p.length / 64 + 2) GT2_ok, ?_⟩
    split at h
    · rename_i hl
      have hl := cksEq_iff.1 hl
      subst hl
      cases hc : okP p with
      | false => rw [hc] at h; cases h
      | true =>
        rw [hc, cond_true] at h
        have hlen := okP_n hc
        show call (E9 (p.length / 64 + 2)) S9 161 B9 R9 [DV.lst (RK.mix ck32) 64 p] k = some r
        rw [f9_raw_eq]
        unfold f9_raw
        rw [rows64]
        generalize hn : p.length / 64 = n at *
        unfold badP dupsP at h
        rw [hn] at h
        by_cases h0 : n = 0
        · rw [decide_eq_true h0, Bool.true_or, cond_true] at h
          subst h0
          exact h
        · have e0 : ((n : Int) == 0) = false := by simp; omega
          rw [e0, cond_false]
          dsimp only
          rw [decide_eq_false h0, Bool.false_or] at h
          have e1 : decide ((n : Int) > 255) = decide (n > 255) := by rw [Bool.eq_iff_iff]; simp; omega
          rw [cond_false, e1]
          cases h5 : decide (n > 255) with
          | true => rw [h5] at h; exact h
          | false =>
            rw [h5, cond_false] at h
            rw [cond_false]
            have h5 := of_decide_eq_false h5
            refine (f9_seen _ _ hc hn (by omega) n 0 (by omega) (n + 2) (by omega)).trans ?_
            cases hd : dupAll (keyP p) n 0 with
            | true => rw [hd] at h; exact h
            | false =>
              rw [hd, cond_false] at h
              rw [cond_false]
              have e2 : (decide (0 ≤ (n : Int)) && (decide ((n : Int) ≤ (n : Int)) && (decide ((n : Int) ≤ 281474976710656) && decide ((n : Int) * 32 ≤ 281474976710656)))) = true := by
                simp only [Bool.and_eq_true, decide_eq_true_eq]; omega
              rw [rows64, hn, e2, cond_true, toN, arr_zero]
              refine (f9_ys _ hc hn (by omega) n 0 (by omega) (n + 2) (by omega) _ ltE_zero).trans ?_
              refine (f9_passes _ hc hn (by omega) (by omega) (by omega) (n - 1) 1 (by omega) (by omega) (n + 2) (by omega) _ (ysG_lt (pY_lt p) n)).trans ?_
              rw [e2, cond_true, toN, arr_zero]
              have w2 : IntKind.i64.wrap ((n : Int) - 1) = (n : Int) - 1 := wrapI (by omega) (by omega)
              rw [w2]
              refine (f9_outs _ hc hn (by omega) (by omega) (by omega) (ddG_lt (pY_lt p) n) n (Nat.le_refl n) (n + 2) (by omega) _ ltE_zero).trans ?_
              exact h
    · cases h
  · cases h
end Go.Proofs.Ytogcijgklnfjjaa

/- What the rows of shamir's laws need. -/
namespace Go.Proofs.Ytogcijgklnfjjaa
open Go Go.Eng Go.ChangeShapes Go.WideShapes Go.RowKit
set_option maxRecDepth 100000
theorem own0 : ownKnob Try.prog.godebug = none := by kernel_rfl
theorem laidOut : laidOutB Try.prog = true := by kernel_rfl
theorem wf_u8 {y : Int} (h : (Lit.int .u8 y).wf = true) : 0 ≤ y ∧ y < 256 := by
  have := bounds_u8 h; omega
theorem bulk_one {H : Type} (d : DataW H) : 1 ≤ Rows.uptoBulk d := by
  cases d with
  | lit l => cases l <;> simp [Rows.uptoBulk]
  | nil => simp [Rows.uptoBulk]
  | ptr d => simp [Rows.uptoBulk]
  | slice elems spare => simp [Rows.uptoBulk]
  | agg parts => simp [Rows.uptoBulk]
  | iface t d => simp [Rows.uptoBulk]
  | map entries => simp [Rows.uptoBulk]
  | held h => simp [Rows.uptoBulk]
theorem bulk_length {H : Type} (l : List (DataW H)) : l.length ≤ Rows.uptoBulkAll l := by
  induction l with
  | nil => simp [Rows.uptoBulkAll]
  | cons x r ih => have := bulk_one x; simp only [Rows.uptoBulkAll, List.length_cons]; omega
theorem bulk_slice {H : Type} {d : DataW H} {len : Nat} (h : (d = .nil ∧ len = 0) ∨ ∃ elems spare, d = .slice elems spare ∧ elems.length = len) : len ≤ Rows.uptoBulk d := by
  rcases h with ⟨rfl, rfl⟩ | ⟨elems, spare, rfl, rfl⟩
  · exact Nat.zero_le _
  · have := bulk_length elems
    simp only [Rows.uptoBulk]; omega
theorem bulk_bound {H : Type} {l : List (DataW H)} (hk : Rows.uptoSmall H l = true) : Rows.uptoBulkAll l ≤ 1048576 := of_decide_eq_true hk
theorem elSc (H : Type) (enc : TypeId × Value → H) : IntEl H enc Try.prog 30 .u8 32 := intEl_array Try.underlying30 (by kernel_rfl) (by omega) (intEl_int Try.underlying5 (by kernel_rfl))
theorem elInt (H : Type) (enc : TypeId × Value → H) : IntEl H enc Try.prog 3 .i64 1 := intEl_int Try.underlying3 (by kernel_rfl)
theorem ck32_at : ∀ j, j < 64 → ckAt ck32 j = if j < 32 then .int .u8 else .int .u8 := fun j hj => ckEq_iff.1 ((by decide : ∀ j, j < 64 → ckEq (ckAt ck32 j) (if j < 32 then .int .u8 else .int .u8) = true) j hj)
theorem ck43_at : ∀ j, j < 33 → ckAt ck43 j = if j < 1 then .int .i64 else .int .u8 := fun j hj => ckEq_iff.1 ((by decide : ∀ j, j < 33 → ckEq (ckAt ck43 j) (if j < 1 then .int .i64 else .int .u8) = true) j hj)
theorem elSh (H : Type) (enc : TypeId × Value → H) : MixEl H enc Try.prog 43 ck43 33 := mixEl_struct2 Try.underlying43 (by kernel_rfl) (elInt H enc) (elSc H enc) rfl rfl rfl (by decide) ck43_at
theorem elPt (H : Type) (enc : TypeId × Value → H) : MixEl H enc Try.prog 32 ck32 64 := mixEl_struct2 Try.underlying32 (by kernel_rfl) (elSc H enc) (elSc H enc) rfl rfl rfl (by decide) ck32_at
theorem okB_row {x : List Int} (hl : x.length = 32) (hw : ∀ y ∈ x, (Lit.int .u8 y).wf = true) : okB x = true := by
  unfold okB
  rw [decide_eq_true hl, Bool.true_and, List.all_eq_true]
  intro b hb
  have := wf_u8 (hw b hb)
  rw [Bool.and_eq_true]
  exact ⟨decide_eq_true this.1, decide_eq_true this.2⟩
theorem okF_row {x : List Int} {len : Nat} (hm : len ≤ 1048576) (hl : x.length = len * 32) (hw : ∀ y ∈ x, (Lit.int .u8 y).wf = true) : okF x = true := by
  unfold okF
  rw [hl, Nat.mul_mod_left, show Nat.ble (len * 32) 1073741824 = true from Nat.ble_eq_true_of_le (by omega)]
  rw [show (Nat.beq 0 0 && true) = true from rfl, Bool.true_and, List.all_eq_true]
  intro b h
  have := wf_u8 (hw b h)
  rw [Bool.and_eq_true]
  exact ⟨decide_eq_true this.1, decide_eq_true this.2⟩
theorem okP_row {x : List Int} {len : Nat} (hm : len ≤ 1048576) (hl : x.length = len * 64) (hw : ∀ i y, x[i]? = some y → WfC (ckAt ck32 (i % 64)) y) : okP x = true := by
  unfold okP
  rw [hl, Nat.mul_mod_left, show Nat.ble (len * 64) 1073741824 = true from Nat.ble_eq_true_of_le (by omega)]
  rw [show (Nat.beq 0 0 && true) = true from rfl, Bool.true_and, List.all_eq_true]
  intro b h
  obtain ⟨i, hi⟩ := List.getElem?_of_mem h
  have h1 := hw i b hi
  rw [ck32_at _ (Nat.mod_lt _ (by decide)), ite_self] at h1
  have := wf_u8 h1
  rw [Bool.and_eq_true]
  exact ⟨decide_eq_true this.1, decide_eq_true this.2⟩
end Go.Proofs.Ytogcijgklnfjjaa

/- The field of the order, as a ring that can be reckoned in; values of polynomials; a polynomial has few roots. Plain numbers. -/
namespace Go.Proofs.Ytogcijgklnfjjaa
open Go Go.Eng
set_option maxRecDepth 100000
set_option linter.unusedVariables false

instance : NeZero ell := ⟨by have := ell_pos; omega⟩
abbrev Q := Fin ell
def q (n : Nat) : Q := Fin.ofNat ell n
theorem q_val (n : Nat) : (q n).val = n % ell := rfl
theorem q_eq {a b : Nat} : q a = q b ↔ a % ell = b % ell := by
  constructor
  · intro h; have := congrArg Fin.val h; exact this
  · intro h; exact Fin.ext h
theorem q_inj {a b : Nat} (ha : a < ell) (hb : b < ell) (h : q a = q b) : a = b := by
  have := q_eq.1 h
  rwa [Nat.mod_eq_of_lt ha, Nat.mod_eq_of_lt hb] at this
theorem q_mod (a : Nat) : q (a % ell) = q a := q_eq.2 (Nat.mod_mod _ _)
theorem q_add' (a b : Nat) : q (a + b) = q a + q b := Fin.ext (by
  show (a + b) % ell = (a % ell + b % ell) % ell
  rw [← Nat.add_mod])
theorem q_mul' (a b : Nat) : q (a * b) = q a * q b := Fin.ext (by
  show (a * b) % ell = (a % ell * (b % ell)) % ell
  rw [← Nat.mul_mod])
theorem q_zero : q 0 = 0 := rfl
theorem q_one : q 1 = 1 := rfl
theorem q_ell : q ell = 0 := q_eq.2 (by rw [Nat.mod_self, Nat.zero_mod])
theorem q_add (a b : Nat) : q (addN a b) = q a + q b := by rw [addN_def, q_mod, q_add']
theorem q_mul (a b : Nat) : q (mulN a b) = q a * q b := by rw [mulN_def, q_mod, q_mul']
theorem q_neg {a : Nat} (h : a < ell) : q (negN a) = -q a := by
  have e : q (negN a) + q a = 0 := by rw [← q_add, addN_comm, addN_negN h, q_zero]
  grind
theorem q_dif (a : Nat) {b : Nat} (h : b < ell) : q (difN a b) = q a - q b := by
  unfold difN; rw [q_add, q_neg h]; grind
/-- the inverse -/
noncomputable def qi (a : Q) : Q := q (invN a.val)
theorem q_self (a : Q) : q a.val = a := Fin.ext (Nat.mod_eq_of_lt a.isLt)
theorem q_inv {a : Nat} (h : a < ell) : q (invN a) = qi (q a) := by unfold qi; rw [q_val, Nat.mod_eq_of_lt h]
theorem qi_mul {a : Q} (h : a ≠ 0) : a * qi a = 1 := by
  unfold qi
  have h0 : a.val ≠ 0 := fun e => h (by rw [← q_self a, e, q_zero])
  rw [← q_self a, q_val, Nat.mod_eq_of_lt a.isLt, ← q_mul, mulN_inv a.isLt h0, q_one]
theorem no_zero {a b : Q} (h : a * b = 0) : a = 0 ∨ b = 0 := by
  by_cases ha : a = 0
  · exact .inl ha
  · right
    have h1 := qi_mul ha
    grind
theorem sub_ne {a b : Q} (h : a ≠ b) : a - b ≠ 0 := fun e => h (by grind)
theorem q_ne {a b : Nat} (ha : a < ell) (hb : b < ell) (h : a ≠ b) : q a ≠ q b := fun e => h (q_inj ha hb e)

/-! ### values -/
noncomputable def ev : Nat → (Nat → Q) → Q → Q
  | 0, _, _ => 0
  | n + 1, c, x => c 0 + x * ev n (fun i => c (i + 1)) x
noncomputable def pw (x : Q) : Nat → Q
  | 0 => 1
  | n + 1 => x * pw x n
theorem ev_congr : ∀ {n : Nat} {c d : Nat → Q} {x : Q}, (∀ i, i < n → c i = d i) → ev n c x = ev n d x
  | 0, _, _, _, _ => rfl
  | n + 1, c, d, x, h => by
    unfold ev
    rw [h 0 (by omega), ev_congr (n := n) (c := fun i => c (i + 1)) (d := fun i => d (i + 1)) fun i hi => h (i + 1) (by omega)]
theorem ev_add : ∀ (n : Nat) (c d : Nat → Q) (x : Q), ev n (fun i => c i + d i) x = ev n c x + ev n d x
  | 0, _, _, _ => by unfold ev; grind
  | n + 1, c, d, x => by
    unfold ev
    rw [ev_add n (fun i => c (i + 1)) (fun i => d (i + 1)) x]; grind
theorem ev_sub : ∀ (n : Nat) (c d : Nat → Q) (x : Q), ev n (fun i => c i - d i) x = ev n c x - ev n d x
  | 0, _, _, _ => by unfold ev; grind
  | n + 1, c, d, x => by
    unfold ev
    rw [ev_sub n (fun i => c (i + 1)) (fun i => d (i + 1)) x]; grind
theorem ev_smul : ∀ (n : Nat) (a : Q) (c : Nat → Q) (x : Q), ev n (fun i => a * c i) x = a * ev n c x
  | 0, _, _, _ => by unfold ev; grind
  | n + 1, a, c, x => by
    unfold ev
    rw [ev_smul n a (fun i => c (i + 1)) x]; grind
theorem ev_zero (n : Nat) (x : Q) : ev n (fun _ => 0) x = 0 := by
  induction n with
  | zero => rfl
  | succ n ih => unfold ev; rw [ih]; grind
theorem ev_snoc : ∀ (n : Nat) (c : Nat → Q) (x : Q), ev (n + 1) c x = ev n c x + c n * pw x n
  | 0, c, x => by unfold ev ev pw; grind
  | n + 1, c, x => by
    have ih := ev_snoc n (fun i => c (i + 1)) x
    have e1 : ev (n + 2) c x = c 0 + x * ev (n + 1) (fun i => c (i + 1)) x := rfl
    have e2 : ev (n + 1) c x = c 0 + x * ev n (fun i => c (i + 1)) x := rfl
    have e3 : pw x (n + 1) = x * pw x n := rfl
    rw [e1, e2, e3, ih]; grind
theorem ev_ext (c : Nat → Q) (x : Q) (n : Nat) : ∀ m, (∀ i, n ≤ i → i < n + m → c i = 0) → ev (n + m) c x = ev n c x
  | 0, _ => rfl
  | m + 1, h => by
    rw [show n + (m + 1) = (n + m) + 1 from rfl, ev_snoc, ev_ext c x n m fun i h1 h2 => h i h1 (by omega), h (n + m) (by omega) (by omega)]; grind

/-! ### roots -/
noncomputable def quo : Nat → (Nat → Q) → Q → Nat → Q
  | 0, _, _, _ => 0
  | n + 1, c, s, 0 => ev (n + 1) (fun i => c (i + 1)) s
  | n + 1, c, s, i + 1 => quo n (fun i => c (i + 1)) s i
theorem quo_ev : ∀ (n : Nat) (c : Nat → Q) (s x : Q), ev (n + 1) c x = ev (n + 1) c s + (x - s) * ev n (quo n c s) x
  | 0, c, s, x => by
    have e1 : ∀ y : Q, ev 1 c y = c 0 + y * 0 := fun y => rfl
    have e2 : ev 0 (quo 0 c s) x = 0 := rfl
    rw [e1, e1, e2]; grind
  | n + 1, c, s, x => by
    have ih := quo_ev n (fun i => c (i + 1)) s x
    have e1 : ∀ y, ev (n + 2) c y = c 0 + y * ev (n + 1) (fun i => c (i + 1)) y := fun _ => rfl
    have e2 : ev (n + 1) (quo (n + 1) c s) x = ev (n + 1) (fun i => c (i + 1)) s + x * ev n (quo n (fun i => c (i + 1)) s) x := rfl
    rw [e1 x, e1 s, e2, ih]; grind
theorem quo_top : ∀ (n : Nat) (c : Nat → Q) (s : Q) (i : Nat), n ≤ i → quo n c s i = 0
  | 0, _, _, _, _ => rfl
  | n + 1, c, s, i + 1, h => quo_top n _ s i (by omega)
theorem quo_rec : ∀ (n : Nat) (c : Nat → Q) (s : Q) (j : Nat), j < n → quo n c s j = c (j + 1) + s * quo n c s (j + 1)
  | n + 1, c, s, 0, _ => by
    have e1 : quo (n + 1) c s 0 = c 1 + s * ev n (fun i => c (i + 1 + 1)) s := rfl
    have e2 : quo (n + 1) c s 1 = quo n (fun i => c (i + 1)) s 0 := rfl
    rw [e1, e2]
    cases n with
    | zero => rfl
    | succ n => rfl
  | n + 1, c, s, j + 1, h => quo_rec n (fun i => c (i + 1)) s j (by omega)
theorem roots : ∀ (n : Nat) (c r : Nat → Q), (∀ i, i < n → ev n c (r i) = 0) → (∀ i j, i < j → j < n → r i ≠ r j) → ∀ i, i < n → c i = 0
  | 0, _, _, _, _, i, h => by omega
  | n + 1, c, r, h, hd, i, hi => by
    have hs := h n (by omega)
    have hq : ∀ j, j < n → quo n c (r n) j = 0 := roots n (quo n c (r n)) r (fun j hj => by
      have h1 := quo_ev n c (r n) (r j)
      rw [h j (by omega), hs] at h1
      have h2 : (r j - r n) * ev n (quo n c (r n)) (r j) = 0 := by grind
      rcases no_zero h2 with h3 | h3
      · exact absurd h3 (sub_ne (hd j n hj (by omega)))
      · exact h3) (fun a b h1 h2 => hd a b h1 (by omega))
    have hc : ∀ j, j < n → c (j + 1) = 0 := fun j hj => by
      have h1 := quo_rec n c (r n) j hj
      have h2 : quo n c (r n) (j + 1) = 0 := by
        by_cases e : j + 1 < n
        · exact hq _ e
        · exact quo_top n c _ _ (by omega)
      rw [hq j hj, h2] at h1; grind
    cases i with
    | succ i => exact hc i (by omega)
    | zero =>
      have e1 : ev (n + 1) c (r n) = c 0 + r n * ev n (fun i => c (i + 1)) (r n) := rfl
      rw [hs, ev_congr (d := fun _ => 0) (fun j hj => hc j hj), ev_zero] at e1
      grind
theorem unique {n : Nat} {c d r : Nat → Q} (h : ∀ i, i < n → ev n c (r i) = ev n d (r i)) (hd : ∀ i j, i < j → j < n → r i ≠ r j) : ∀ i, i < n → c i = d i := fun i hi => by
  have := roots n (fun i => c i - d i) r (fun j hj => by rw [ev_sub, h j hj]; grind) hd i hi
  grind

/-- one coefficient changed -/
theorem ev_upd (g : Nat → Nat) (i v : Nat) (x : Q) : ∀ (n : Nat), i < n → ev n (fun j => q (upd g i v j)) x = ev n (fun j => q (g j)) x + (q v - q (g i)) * pw x i
  | n + 1, h => by
    rw [ev_snoc, ev_snoc]
    by_cases e : i = n
    · subst e
      rw [show upd g i v i = v by simp [upd], ev_congr (d := fun j => q (g j)) fun j hj => by simp [upd, show j ≠ i by omega]]
      grind
    · rw [ev_upd g i v x n (by omega), show upd g i v n = g n by simp [upd, show n ≠ i from fun q => e q.symm]]
      grind
end Go.Proofs.Ytogcijgklnfjjaa

/- What rime/rimeref07.Through comes to. MADE BY PROGRAM (wip/tools/mkfn.py, EngGen.lean). -/
namespace Go.Proofs.Ytogcijgklnfjjaa
open Go Go.Eng
set_option maxRecDepth 100000
set_option linter.unusedVariables false

def f10_2_sh : Shp := { n := 58, lo := 1, slots := [(0, .one (.fix (At.own 0))), (4, .one (.fix (At.own 1000004))), (5, .one (.fix (At.own 1000005))), (6, .one (.int IntKind.i64)), (7, .one (.fix (At.ptr 7 0 Off.z 32))), (8, .one (.int IntKind.i64))], items := [(0, .view (RK.mix ck32) 64), (7, .obj [.ints IntKind.u8 32]), (1000004, .row (RK.one IntKind.u8) 32), (1000005, .row (RK.one IntKind.u8) 32)] }
def f10_2_ex1 : Shp := { n := 58, lo := 1, slots := [(3, .one (.int IntKind.i64)), (2, .one (.fix (At.nils))), (40, .one (.bool)), (32, .one (.bool)), (0, .one (.fix (At.own 0))), (4, .one (.fix (At.own 1000004))), (5, .one (.fix (At.own 1000005))), (6, .one (.int IntKind.i64)), (7, .one (.fix (At.ptr 7 0 Off.z 32))), (8, .one (.int IntKind.i64))], items := [(0, .view (RK.mix ck32) 64), (7, .obj [.ints IntKind.u8 32]), (1000004, .row (RK.one IntKind.u8) 32), (1000005, .row (RK.one IntKind.u8) 32)] }
def f10_2_ex2 : Shp := { n := 58, lo := 1, slots := [(32, .one (.bool)), (0, .one (.fix (At.own 0))), (4, .one (.fix (At.own 1000004))), (5, .one (.fix (At.own 1000005))), (6, .one (.int IntKind.i64)), (7, .one (.fix (At.ptr 7 0 Off.z 32))), (8, .one (.int IntKind.i64))], items := [(0, .view (RK.mix ck32) 64), (7, .obj [.ints IntKind.u8 32]), (1000004, .row (RK.one IntKind.u8) 32), (1000005, .row (RK.one IntKind.u8) 32)] }
noncomputable def f10_2_st {R : Type} (N : Nat) (self : Int → Int → List Int → List Int → List Int → List Int → Option R) (k1 : Int → Bool → Bool → Int → Int → List Int → List Int → List Int → List Int → Option R) (k2 : Bool → Int → Int → List Int → List Int → List Int → List Int → Option R) (x1 : Int) (x2 : Int) (x3 : List Int) (x4 : List Int) (x5 : List Int) (x6 : List Int) : Option R :=
 bif Decidable.decide (x2 < x1) then
 bif Decidable.decide (0 ≤ x2) && Decidable.decide (x2 < nI (rowLen 32 x5)) then
 bif Decidable.decide (List.take 32 (List.drop (mulE x2.toNat 32) x5) = x4) then k1 5 (Decidable.decide (List.take 32 (List.drop (mulE x2.toNat 32) x5) = x4)) (Decidable.decide (x2 < x1)) x1 x2 x3 x4 x5 x6
 else
 let v0 : Int := IntKind.i64.wrap (x2 + 1);
 self x1 v0 x3 x4 x5 x6
 else Option.none
else k2 (Decidable.decide (x2 < x1)) x1 x2 x3 x4 x5 x6
noncomputable def f10_2_lp {R : Type} (N : Nat) (k1 : Int → Bool → Bool → Int → Int → List Int → List Int → List Int → List Int → Option R) (k2 : Bool → Int → Int → List Int → List Int → List Int → List Int → Option R) : Nat → Int → Int → List Int → List Int → List Int → List Int → Option R
 | 0, _, _, _, _, _, _ => none
 | n + 1, x1, x2, x3, x4, x5, x6 => f10_2_st N (f10_2_lp N k1 k2 n) k1 k2 x1 x2 x3 x4 x5 x6
noncomputable def f10_2_F (N : Nat) : (R : Type) → List Leaf → (X → AS → Option R) → Option R := fun _ ls K => match ls with
 | [.i x1, .i x2, .l x3, .l x4, .l x5, .l x6] => f10_2_lp N (fun y1 y2 y3 y4 y5 y6 y7 y8 y9 => K (X.ret) (fill f10_2_ex1 [.i y1, .b y2, .b y3, .i y4, .i y5, .l y6, .l y7, .l y8, .l y9])) (fun y1 y2 y3 y4 y5 y6 y7 => K (X.normal) (fill f10_2_ex2 [.b y1, .i y2, .i y3, .l y4, .l y5, .l y6, .l y7])) N x1 x2 x3 x4 x5 x6
 | _ => none
def f10_0_sh : Shp := { n := 58, lo := 1, slots := [(0, .one (.fix (At.own 0))), (4, .one (.fix (At.own 1000004))), (5, .one (.fix (At.own 1000005))), (6, .one (.int IntKind.i64))], items := [(1000004, .row (RK.one IntKind.u8) 32), (1000005, .row (RK.one IntKind.u8) 32), (0, .view (RK.mix ck32) 64)] }
def f10_0_ex1 : Shp := { n := 58, lo := 1, slots := [(3, .one (.int IntKind.i64)), (2, .one (.fix (At.nils))), (40, .one (.bool)), (32, .one (.bool)), (0, .one (.fix (At.own 0))), (4, .one (.fix (At.own 1000004))), (5, .one (.fix (At.own 1000005))), (6, .one (.int IntKind.i64)), (7, .one (.fix (At.ptr 7 0 Off.z 32))), (8, .one (.int IntKind.i64))], items := [(0, .view (RK.mix ck32) 64), (7, .obj [.ints IntKind.u8 32]), (1000004, .row (RK.one IntKind.u8) 32), (1000005, .row (RK.one IntKind.u8) 32)] }
def f10_0_ex2 : Shp := { n := 58, lo := 1, slots := [(20, .one (.bool)), (0, .one (.fix (At.own 0))), (4, .one (.fix (At.own 1000004))), (5, .one (.fix (At.own 1000005))), (6, .one (.int IntKind.i64))], items := [(1000004, .row (RK.one IntKind.u8) 32), (1000005, .row (RK.one IntKind.u8) 32), (0, .view (RK.mix ck32) 64)] }
noncomputable def f10_0_st {R : Type} (N : Nat) (self : Int → List Int → List Int → List Int → Option R) (k1 : Int → Bool → Bool → Int → Int → List Int → List Int → List Int → List Int → Option R) (k2 : Bool → Int → List Int → List Int → List Int → Option R) (x1 : Int) (x2 : List Int) (x3 : List Int) (x4 : List Int) : Option R :=
 bif Decidable.decide (x1 < nI (rowLen 64 x4)) then
 bif Decidable.decide (0 ≤ x1) && Decidable.decide (x1 < nI (rowLen 64 x4)) then
 bif okB (List.take 32 (List.drop (x1.toNat * 64 + (0 + 0)) x4)) && okB (List.replicate 32 0) then
 f10_2_lp N (fun w0_1 w0_2 w0_3 w0_4 w0_5 w0_6 w0_7 w0_8 w0_9 => k1 w0_1 w0_2 w0_3 w0_4 w0_5 w0_6 w0_7 w0_8 w0_9)
 (fun w1_1 w1_2 w1_3 w1_4 w1_5 w1_6 w1_7 =>
 let v2 : List Int := splice (zerosOf (1 * 32)) (Off.at (0 * 32)) w1_5;
 bif ((2 * (rowLen 32 w1_6 + rowLen 32 v2) + 192) * 32).ble big48 && (rowLen 32 w1_6 + rowLen 32 v2).ble big48 then
 bif Decidable.decide (0 ≤ w1_2) && Decidable.decide (w1_2 < nI (rowLen 64 w1_4)) then
 bif okB (List.take 32 (List.drop (w1_2.toNat * 64 + (0 + 32)) w1_4)) && okB (List.replicate 32 0) then
 let v3 : List Int := splice (zerosOf (1 * 32)) (Off.at (0 * 32)) (sN (addN (vS (List.take 32 (List.drop (w1_2.toNat * 64 + (0 + 32)) w1_4))) (vS (List.replicate 32 0))));
 bif ((2 * (rowLen 32 w1_7 + rowLen 32 v3) + 192) * 32).ble big48 && (rowLen 32 w1_7 + rowLen 32 v3).ble big48 then
 let v4 : Int := IntKind.i64.wrap (w1_2 + 1);
 let v5 : List Int := w1_6 ++ v2;
 let v6 : List Int := w1_7 ++ v3;
 self v4 v5 v6 w1_4
 else Option.none
 else Option.none
 else Option.none
 else Option.none)
 N x1 0 x4 (sN (addN (vS (List.take 32 (List.drop (x1.toNat * 64 + (0 + 0)) x4))) (vS (List.replicate 32 0)))) x2 x3
 else Option.none
 else Option.none
else k2 (Decidable.decide (x1 < nI (rowLen 64 x4))) x1 x2 x3 x4
noncomputable def f10_0_lp {R : Type} (N : Nat) (k1 : Int → Bool → Bool → Int → Int → List Int → List Int → List Int → List Int → Option R) (k2 : Bool → Int → List Int → List Int → List Int → Option R) : Nat → Int → List Int → List Int → List Int → Option R
 | 0, _, _, _, _ => none
 | n + 1, x1, x2, x3, x4 => f10_0_st N (f10_0_lp N k1 k2 n) k1 k2 x1 x2 x3 x4
noncomputable def f10_0_F (N : Nat) : (R : Type) → List Leaf → (X → AS → Option R) → Option R := fun _ ls K => match ls with
 | [.i x1, .l x2, .l x3, .l x4] => f10_0_lp N (fun y1 y2 y3 y4 y5 y6 y7 y8 y9 => K (X.ret) (fill f10_0_ex1 [.i y1, .b y2, .b y3, .i y4, .i y5, .l y6, .l y7, .l y8, .l y9])) (fun y1 y2 y3 y4 y5 => K (X.normal) (fill f10_0_ex2 [.b y1, .i y2, .l y3, .l y4, .l y5])) N x1 x2 x3 x4
 | _ => none
noncomputable def f10_raw {R : Type} (N : Nat) (pts : List Int) (k : List DV → Option R) : Option R :=
 bif nI (rowLen 64 pts) == 0 then k [DV.lst (RK.one IntKind.u8) 32 [], DV.v (SV.one (At.int IntKind.i64 8))]
else
 let v0 : Bool := bif Bool.false then Bool.true else Decidable.decide (nI (rowLen 64 pts) > 255);
 bif v0 then k [DV.lst (RK.one IntKind.u8) 32 [], DV.v (SV.one (At.int IntKind.i64 8))] else f10_0_lp N (fun w1_1 w1_2 w1_3 w1_4 w1_5 w1_6 w1_7 w1_8 w1_9 => k [DV.lst (RK.one IntKind.u8) 32 [], DV.v (SV.one (At.int IntKind.i64 w1_1))]) (fun w2_1 w2_2 w2_3 w2_4 w2_5 => bif okF w2_3 && (okF w2_4 && ((w2_3.length / 32).beq (w2_4.length / 32) && (w2_3.length / 32).ble 30000)) then k [DV.lst (RK.one IntKind.u8) 32 (arrN (coefG (numF w2_3) (numF w2_4) (w2_3.length / 32)) (w2_3.length / 32)), DV.v (SV.one (At.int IntKind.i64 0))] else Option.none) N 0 [] [] pts


noncomputable def E10 (N : Nat) : Env := { Θ := Th, Γ := GRW, K := K10, ν := N10, fuel := 0, lp := [(0, mkL N10_0 f10_0_sh (f10_0_F N)), (2, mkL N10_2 f10_2_sh (f10_2_F N))] }

theorem f10_2_st_eq {R : Type} (N : Nat) (K : X → AS → Option R) (n : Nat) (x1 : Int) (x2 : Int) (x3 : List Int) (x4 : List Int) (x5 : List Int) (x6 : List Int) : roundsOf (E10 N) N10_2 2 B10_2 K (n + 1) (fill f10_2_sh [.i x1, .i x2, .l x3, .l x4, .l x5, .l x6]) = f10_2_st N (fun x1 x2 x3 x4 x5 x6 => roundsOf (E10 N) N10_2 2 B10_2 K n (fill f10_2_sh [.i x1, .i x2, .l x3, .l x4, .l x5, .l x6])) (fun y1 y2 y3 y4 y5 y6 y7 y8 y9 => K (X.ret) (fill f10_2_ex1 [.i y1, .b y2, .b y3, .i y4, .i y5, .l y6, .l y7, .l y8, .l y9])) (fun y1 y2 y3 y4 y5 y6 y7 => K (X.normal) (fill f10_2_ex2 [.b y1, .i y2, .i y3, .l y4, .l y5, .l y6, .l y7])) x1 x2 x3 x4 x5 x6 := by kernel_rfl
theorem f10_2_lp_eq {R : Type} (N : Nat) (K : X → AS → Option R) : ∀ (n : Nat) (x1 : Int) (x2 : Int) (x3 : List Int) (x4 : List Int) (x5 : List Int) (x6 : List Int), roundsOf (E10 N) N10_2 2 B10_2 K n (fill f10_2_sh [.i x1, .i x2, .l x3, .l x4, .l x5, .l x6]) = f10_2_lp N (fun y1 y2 y3 y4 y5 y6 y7 y8 y9 => K (X.ret) (fill f10_2_ex1 [.i y1, .b y2, .b y3, .i y4, .i y5, .l y6, .l y7, .l y8, .l y9])) (fun y1 y2 y3 y4 y5 y6 y7 => K (X.normal) (fill f10_2_ex2 [.b y1, .i y2, .i y3, .l y4, .l y5, .l y6, .l y7])) n x1 x2 x3 x4 x5 x6
  | 0, _, _, _, _, _, _ => rfl
  | n + 1, x1, x2, x3, x4, x5, x6 => by
    rw [f10_2_st_eq, f10_2_lp, show (fun x1 x2 x3 x4 x5 x6 => roundsOf (E10 N) N10_2 2 B10_2 K n (fill f10_2_sh [.i x1, .i x2, .l x3, .l x4, .l x5, .l x6])) = f10_2_lp N (fun y1 y2 y3 y4 y5 y6 y7 y8 y9 => K (X.ret) (fill f10_2_ex1 [.i y1, .b y2, .b y3, .i y4, .i y5, .l y6, .l y7, .l y8, .l y9])) (fun y1 y2 y3 y4 y5 y6 y7 => K (X.normal) (fill f10_2_ex2 [.b y1, .i y2, .i y3, .l y4, .l y5, .l y6, .l y7])) n from by funext x1 x2 x3 x4 x5 x6; exact f10_2_lp_eq N K n x1 x2 x3 x4 x5 x6]
theorem f10_2_ok (N : Nat) (hlp : LoopsOk Try.prog (E10 N).lp B10_2) (hΓ : CtxOk Try.prog (E10 N).Γ) : LoopOk Try.prog (mkL N10_2 f10_2_sh (f10_2_F N)) 2 B10_2 := by
  refine loopOk_of (E := E10 N) thOk hΓ mixed hlp ?_
  intro R ls K r h
  unfold f10_2_F at h
  split at h
  · exact ⟨N, by rw [f10_2_lp_eq]; exact h⟩
  · cases h
theorem f10_0_st_eq {R : Type} (N : Nat) (K : X → AS → Option R) (n : Nat) (x1 : Int) (x2 : List Int) (x3 : List Int) (x4 : List Int) : roundsOf (E10 N) N10_0 0 B10_0 K (n + 1) (fill f10_0_sh [.i x1, .l x2, .l x3, .l x4]) = f10_0_st N (fun x1 x2 x3 x4 => roundsOf (E10 N) N10_0 0 B10_0 K n (fill f10_0_sh [.i x1, .l x2, .l x3, .l x4])) (fun y1 y2 y3 y4 y5 y6 y7 y8 y9 => K (X.ret) (fill f10_0_ex1 [.i y1, .b y2, .b y3, .i y4, .i y5, .l y6, .l y7, .l y8, .l y9])) (fun y1 y2 y3 y4 y5 => K (X.normal) (fill f10_0_ex2 [.b y1, .i y2, .l y3, .l y4, .l y5])) x1 x2 x3 x4 := by kernel_rfl
theorem f10_0_lp_eq {R : Type} (N : Nat) (K : X → AS → Option R) : ∀ (n : Nat) (x1 : Int) (x2 : List Int) (x3 : List Int) (x4 : List Int), roundsOf (E10 N) N10_0 0 B10_0 K n (fill f10_0_sh [.i x1, .l x2, .l x3, .l x4]) = f10_0_lp N (fun y1 y2 y3 y4 y5 y6 y7 y8 y9 => K (X.ret) (fill f10_0_ex1 [.i y1, .b y2, .b y3, .i y4, .i y5, .l y6, .l y7, .l y8, .l y9])) (fun y1 y2 y3 y4 y5 => K (X.normal) (fill f10_0_ex2 [.b y1, .i y2, .l y3, .l y4, .l y5])) n x1 x2 x3 x4
  | 0, _, _, _, _ => rfl
  | n + 1, x1, x2, x3, x4 => by
    rw [f10_0_st_eq, f10_0_lp, show (fun x1 x2 x3 x4 => roundsOf (E10 N) N10_0 0 B10_0 K n (fill f10_0_sh [.i x1, .l x2, .l x3, .l x4])) = f10_0_lp N (fun y1 y2 y3 y4 y5 y6 y7 y8 y9 => K (X.ret) (fill f10_0_ex1 [.i y1, .b y2, .b y3, .i y4, .i y5, .l y6, .l y7, .l y8, .l y9])) (fun y1 y2 y3 y4 y5 => K (X.normal) (fill f10_0_ex2 [.b y1, .i y2, .l y3, .l y4, .l y5])) n from by funext x1 x2 x3 x4; exact f10_0_lp_eq N K n x1 x2 x3 x4]
theorem f10_0_ok (N : Nat) (hlp : LoopsOk Try.prog (E10 N).lp B10_0) (hΓ : CtxOk Try.prog (E10 N).Γ) : LoopOk Try.prog (mkL N10_0 f10_0_sh (f10_0_F N)) 0 B10_0 := by
  refine loopOk_of (E := E10 N) thOk hΓ mixed hlp ?_
  intro R ls K r h
  unfold f10_0_F at h
  split at h
  · exact ⟨N, by rw [f10_0_lp_eq]; exact h⟩
  · cases h

theorem lok10_2 (N : Nat) (hΓ : CtxOk Try.prog GRW) : LoopOk Try.prog (mkL N10_2 f10_2_sh (f10_2_F N)) 2 B10_2 := f10_2_ok N (loopsOk_of (l := []) (by kernel_rfl) trivial) hΓ
theorem lok10_0 (N : Nat) (hΓ : CtxOk Try.prog GRW) : LoopOk Try.prog (mkL N10_0 f10_0_sh (f10_0_F N)) 0 B10_0 := f10_0_ok N (loopsOk_of (l := [(2, B10_2)]) (by kernel_rfl) (allOk_cons (L := mkL N10_2 f10_2_sh (f10_2_F N)) rfl (lok10_2 N hΓ) trivial)) hΓ
theorem f10_contract (N : Nat) (hΓ : CtxOk Try.prog GRW) : Contract Try.prog 10 { sig := S10, impl := fun _ ds k => call (E10 N) S10 58 B10 R10 ds k } :=
  call_contract (E := E10 N) thOk hΓ mixed ok10.look ok10.body ok10.n ok10.rv ok10.name rfl (by decide) (loopsOk_of (l := [(0, B10_0), (2, B10_2)]) (by kernel_rfl) (allOk_cons (L := mkL N10_0 f10_0_sh (f10_0_F N)) rfl (lok10_0 N hΓ) (allOk_cons (L := mkL N10_2 f10_2_sh (f10_2_F N)) rfl (lok10_2 N hΓ) trivial)))
theorem f10_raw_eq {R : Type} (N : Nat) (pts : List Int) (k : List DV → Option R) : call (E10 N) S10 58 B10 R10 [.lst (.mix ck32) 64 pts] k = f10_raw N pts k := by kernel_rfl
end Go.Proofs.Ytogcijgklnfjjaa

/- The document's coefficients of the polynomial through points. -/
namespace Go.Proofs.Ytogcijgklnfjjaa
open Go Go.Eng
set_option maxRecDepth 100000
set_option linter.unusedVariables false

theorem basPB_congr {X X' : Nat → Nat} {n i : Nat} (h : ∀ j, j < n → X j = X' j) (hi : i < n) : basPB X i n = basPB X' i n :=
  iterF_congr n 0 _ fun k s _ h2 => by unfold coefIn; rw [h k (by omega), h i hi]
theorem coefG_congr {X X' Y Y' : Nat → Nat} {n : Nat} (h : ∀ j, j < n → X j = X' j) (h' : ∀ j, j < n → Y j = Y' j) : coefG X Y n = coefG X' Y' n :=
  iterF_congr n 0 _ fun k s _ h2 => by unfold coefSt; rw [basPB_congr h (show k < n by omega), h' k (by omega)]

def hasUp (key : Nat → List Int) (x : List Int) : Nat → Nat → Bool
  | 0, _ => false
  | m + 1, k => decide (key k = x) || hasUp key x m (k + 1)
theorem hasUp_iff {key : Nat → List Int} {x : List Int} : ∀ {m k}, hasUp key x m k = true ↔ ∃ j, k ≤ j ∧ j < k + m ∧ key j = x
  | 0, k => by
    simp only [hasUp, Bool.false_eq_true, false_iff]
    rintro ⟨j, h1, h2, _⟩; omega
  | m + 1, k => by
    unfold hasUp
    rw [Bool.or_eq_true, hasUp_iff (m := m), decide_eq_true_eq]
    constructor
    · rintro (h | ⟨j, h1, h2, h3⟩)
      · exact ⟨k, by omega, by omega, h⟩
      · exact ⟨j, by omega, by omega, h3⟩
    · rintro ⟨j, h1, h2, h3⟩
      by_cases e : j = k
      · subst e; exact .inl h3
      · exact .inr ⟨j, by omega, by omega, h3⟩
theorem hasUp_has (key : Nat → List Int) (x : List Int) (i : Nat) : hasUp key x i 0 = hasK key x i := by
  rw [Bool.eq_iff_iff, hasUp_iff, hasK_iff]
  constructor
  · rintro ⟨j, h1, h2, h3⟩; exact ⟨j, by omega, h3⟩
  · rintro ⟨j, h2, h3⟩; exact ⟨j, by omega, by omega, h3⟩

theorem f10_in {R : Type} {N : Nat} (K : Int → Option R) (k2 : Bool → Int → Int → List Int → List Int → List Int → List Int → Option R) {p x4 x6 : List Int} {i : Nat} (hb : i ≤ 30000) :
    ∀ m k : Nat, k + m = i → ∀ fuel, m < fuel → f10_2_lp N (fun w _ _ _ _ _ _ _ _ => K w) k2 fuel (i : Int) (k : Int) p x4 (arrN (pX p) i) x6 =
      bif hasUp (keyP p) x4 m k then K 5 else k2 false (i : Int) (i : Int) p x4 (arrN (pX p) i) x6 := by
  intro m
  induction m with
  | zero =>
    intro k h fuel hf
    obtain ⟨f, rfl⟩ : ∃ f, fuel = f + 1 := ⟨fuel - 1, by omega⟩
    show f10_2_st N (f10_2_lp N _ _ f) _ _ _ _ _ _ _ _ = _
    unfold f10_2_st
    rw [ltF (by omega), cond_false, show k = i by omega]
    rfl
  | succ m ih =>
    intro k h fuel hf
    obtain ⟨f, rfl⟩ : ∃ f, fuel = f + 1 := ⟨fuel - 1, by omega⟩
    show f10_2_st N (f10_2_lp N _ _ f) _ _ _ _ _ _ _ _ = _
    unfold f10_2_st
    rw [ltT (show k < i by omega), arr_rows, ge0, ltT (show k < i by omega), wAdd (by omega), toN, arr_el _ (show k < i by omega)]
    simp only [Bool.and_self, cond_true]
    unfold hasUp
    rw [show sN (pX p k) = keyP p k from rfl]
    cases decide (keyP p k = x4) with
    | true => rfl
    | false =>
      rw [cond_false, Bool.false_or]
      exact ih (k + 1) (by omega) f (by omega)
theorem one_row {x : List Int} (h : x.length = 32) : splice (zerosOf (1 * 32)) (Off.at (0 * 32)) x = x := by
  show List.take 0 _ ++ (x ++ List.drop (0 * 32 + x.length) (zerosOf (1 * 32))) = x
  rw [List.take_zero, List.nil_append, List.drop_of_length_le (by rw [zeros_len, h]; omega), List.append_nil]
theorem f10_out {R : Type} {N : Nat} (K : Int → Option R) (k2 : Bool → Int → List Int → List Int → List Int → Option R) {p : List Int} {n : Nat} (hp : okP p = true) (hn : p.length / 64 = n) (hb : n ≤ 30000) (hN : n < N) :
    ∀ j i : Nat, i + j = n → ∀ fuel, j < fuel → f10_0_lp N (fun w _ _ _ _ _ _ _ _ => K w) k2 fuel (i : Int) (arrN (pX p) i) (arrN (pY p) i) p =
      bif dupAll (keyP p) j i then K 5 else k2 false (n : Int) (arrN (pX p) n) (arrN (pY p) n) p := by
  intro j
  induction j with
  | zero =>
    intro i h fuel hf
    obtain ⟨f, rfl⟩ : ∃ f, fuel = f + 1 := ⟨fuel - 1, by omega⟩
    show f10_0_st N (f10_0_lp N _ _ f) _ _ _ _ _ _ = _
    unfold f10_0_st
    rw [rows64, hn, ltF (by omega), cond_false, show i = n by omega]
    rfl
  | succ j ih =>
    intro i h fuel hf
    obtain ⟨f, rfl⟩ : ∃ f, fuel = f + 1 := ⟨fuel - 1, by omega⟩
    show f10_0_st N (f10_0_lp N _ _ f) _ _ _ _ _ _ = _
    unfold f10_0_st
    have e1 : List.take 32 (List.drop (Int.toNat (i : Int) * 64 + (0 + 0)) p) = ptX p i := rfl
    have e2 : List.take 32 (List.drop (Int.toNat (i : Int) * 64 + (0 + 32)) p) = ptY p i := rfl
    have hz : okB (List.replicate 32 (0 : Int)) = true := by rw [b_zero']; exact okB_sN 0
    have hk : sN (addN (vS (ptX p i)) (vS (List.replicate 32 (0 : Int)))) = keyP p i := by
      rw [b_zero', vS_sN ell_pos, addN_zero (vS_lt _)]; rfl
    have hk2 : addN (vS (ptY p i)) (vS (List.replicate 32 (0 : Int))) = pY p i := by
      rw [b_zero', vS_sN ell_pos, addN_zero (vS_lt _)]; rfl
    rw [rows64, hn, ltT (show i < n by omega), ge0, e1, okP_x hp (by omega), hz, hk]
    simp only [Bool.and_self, cond_true]
    refine (f10_in (N := N) _ _ (p := p) (x4 := keyP p i) (x6 := arrN (pY p) i) (i := i) (by omega) i 0 (by omega) N (by omega)).trans ?_
    rw [hasUp_has]
    unfold dupAll
    cases hasK (keyP p) (keyP p i) i with
    | true => rfl
    | false =>
      rw [cond_false, Bool.false_or]
      rw [e2, okP_y hp (by omega), hk2, rows64, hn, ge0, ltT (show i < n by omega), one_row (show (keyP p i).length = 32 from sN_len _), one_row (sN_len _), wAdd (by omega)]
      have r1 : ∀ g, rowLen 32 (arrN g i) = i := fun g => arr_div g i
      have r2 : ∀ v, rowLen 32 (sN v) = 1 := fun v => by show (sN v).length / 32 = 1; rw [sN_len]
      have r3 : rowLen 32 (keyP p i) = 1 := r2 _
      have hle : (Nat.ble ((2 * (i + 1) + 192) * 32) big48 && Nat.ble (i + 1) big48) = true := by
        rw [Bool.and_eq_true, Nat.ble_eq, Nat.ble_eq]; unfold big48; omega
      rw [r1, r1, r2, r3, hle]
      simp only [Bool.and_self, cond_true]
      exact ih (i + 1) (by omega) f (by omega)

noncomputable def I10 : (R : Type) → List DV → (List DV → Option R) → Option R := fun _ ds k => match ds with
  | [.lst (.mix l) 64 p] => match cksEq l ck32 with
    | true => bif okP p then (bif badP p then k [.lst (.one .u8) 32 [], .v (.one (.int .i64 8))] else bif dupsP p then k [.lst (.one .u8) 32 [], .v (.one (.int .i64 5))]
        else k [.lst (.one .u8) 32 (arrN (coefG (pX p) (pY p) (p.length / 64)) (p.length / 64)), .v (.one (.int .i64 0))]) else none
    | false => none
  | _ => none
theorem c10 : Contract Try.prog 10 { sig := S10, impl := I10 } := by
  refine Contract.refine fun R ds k r h => ?_
  unfold I10 at h
  split at h
  · rename_i l p
    refine ⟨_, f10_contract (p.length / 64 + 2) GRW_ok, ?_⟩
    split at h
    · rename_i hl
      have hl := cksEq_iff.1 hl
      subst hl
      cases hc : okP p with
      | false => rw [hc] at h; cases h
      | true =>
        rw [hc, cond_true] at h
        have hlen := okP_n hc
        show call (E10 (p.length / 64 + 2)) S10 58 B10 R10 [DV.lst (RK.mix ck32) 64 p] k = some r
        rw [f10_raw_eq]
        unfold f10_raw
        rw [rows64]
        generalize hn : p.length / 64 = n at *
        unfold badP dupsP at h
        rw [hn] at h
        by_cases h0 : n = 0
        · rw [decide_eq_true h0, Bool.true_or, cond_true] at h
          subst h0
          exact h
        · have e0 : ((n : Int) == 0) = false := by simp; omega
          rw [e0, cond_false]
          dsimp only
          rw [decide_eq_false h0, Bool.false_or] at h
          have e1 : decide ((n : Int) > 255) = decide (n > 255) := by rw [Bool.eq_iff_iff]; simp; omega
          rw [cond_false, e1]
          cases h5 : decide (n > 255) with
          | true => rw [h5] at h; exact h
          | false =>
            rw [h5, cond_false] at h
            rw [cond_false]
            have h5 := of_decide_eq_false h5
            refine (f10_out _ _ hc hn (by omega) (by omega) n 0 (by omega) (n + 2) (by omega)).trans ?_
            cases hd : dupAll (keyP p) n 0 with
            | true => rw [hd] at h; exact h
            | false =>
              rw [hd, cond_false] at h
              rw [cond_false]
              have e2 : (okF (arrN (pX p) n) && (okF (arrN (pY p) n) && ((n).beq (n) && (n).ble 30000))) = true := by
                rw [arr_okF (by omega), arr_okF (by omega), Nat.beq_refl, Bool.true_and, Bool.true_and, Bool.true_and]
                rw [Nat.ble_eq]; omega
              rw [arr_div, arr_div, e2, cond_true, coefG_congr (X' := pX p) (Y' := pY p) (fun j hj => numF_arr (pX_lt p) hj) (fun j hj => numF_arr (pY_lt p) hj)]
              exact h
    · cases h
  · cases h
end Go.Proofs.Ytogcijgklnfjjaa

/- Newton's way and Lagrange's give one polynomial. Plain numbers. -/
namespace Go.Proofs.Ytogcijgklnfjjaa
open Go Go.Eng
set_option maxRecDepth 100000
set_option linter.unusedVariables false

/-! ### Neville's values, divided differences -/
section
variable (X y : Nat → Q)
noncomputable def nev : Nat → Nat → Q → Q
  | a, 0, _ => y a
  | a, m + 1, x => ((x - X a) * nev (a + 1) m x - (x - X (a + m + 1)) * nev a m x) * qi (X (a + m + 1) - X a)
noncomputable def dd : Nat → Nat → Q
  | 0, j => y j
  | k + 1, j => (dd k j - dd k (j - 1)) * qi (X j - X (j - (k + 1)))
/-- the product of (x - X (a + j)), j < m -/
noncomputable def pr (a : Nat) : Nat → Q → Q
  | 0, _ => 1
  | m + 1, x => pr a m x * (x - X (a + m))
theorem pr_front (a : Nat) (x : Q) : ∀ m, pr X a (m + 1) x = (x - X a) * pr X (a + 1) m x
  | 0 => by
    have e1 : pr X a 1 x = 1 * (x - X (a + 0)) := rfl
    have e2 : pr X (a + 1) 0 x = 1 := rfl
    rw [e1, e2, Nat.add_zero]; grind
  | m + 1 => by
    have ih := pr_front a x m
    have e1 : pr X a (m + 2) x = pr X a (m + 1) x * (x - X (a + (m + 1))) := rfl
    have e2 : pr X (a + 1) (m + 1) x = pr X (a + 1) m x * (x - X (a + 1 + m)) := rfl
    rw [e1, e2, ih, show a + (m + 1) = a + 1 + m by omega]; grind
theorem nev_both : ∀ (m a : Nat) (x : Q), (∀ i j, a ≤ i → i < j → j ≤ a + m + 1 → X i ≠ X j) →
    nev X y a (m + 1) x = nev X y a m x + dd X y (m + 1) (a + m + 1) * pr X a (m + 1) x ∧
    nev X y a (m + 1) x = nev X y (a + 1) m x + dd X y (m + 1) (a + m + 1) * pr X (a + 1) (m + 1) x
  | 0, a, x, h => by
    have hd := qi_mul (sub_ne (h a (a + 1) (by omega) (by omega) (by omega)).symm)
    have e1 : nev X y a 1 x = ((x - X a) * y (a + 1) - (x - X (a + 1)) * y a) * qi (X (a + 1) - X a) := rfl
    have e2 : dd X y 1 (a + 0 + 1) = (y (a + 1) - y a) * qi (X (a + 1) - X a) := by
      show (y (a + 0 + 1) - y (a + 0 + 1 - 1)) * qi (X (a + 0 + 1) - X (a + 0 + 1 - (0 + 1))) = _
      rfl
    have e3 : pr X a 1 x = 1 * (x - X (a + 0)) := rfl
    have e4 : pr X (a + 1) 1 x = 1 * (x - X (a + 1 + 0)) := rfl
    have e5 : nev X y a 0 x = y a := rfl
    have e6 : nev X y (a + 1) 0 x = y (a + 1) := rfl
    rw [Nat.add_zero] at e3 e4
    rw [show (0 : Nat) + 1 = 1 from rfl, e1, e2, e3, e4, e5, e6]
    constructor <;> grind
  | m + 1, a, x, h => by
    obtain ⟨a1, a2⟩ := nev_both m a x fun i j h1 h2 h3 => h i j h1 h2 (by omega)
    obtain ⟨b1, b2⟩ := nev_both m (a + 1) x fun i j h1 h2 h3 => h i j (by omega) h2 (by omega)
    have hd := qi_mul (sub_ne (h a (a + m + 2) (by omega) (by omega) (by omega)).symm)
    have e1 : nev X y a (m + 2) x = ((x - X a) * nev X y (a + 1) (m + 1) x - (x - X (a + m + 2)) * nev X y a (m + 1) x) * qi (X (a + m + 2) - X a) := rfl
    have e2 : dd X y (m + 2) (a + (m + 1) + 1) = (dd X y (m + 1) (a + m + 2) - dd X y (m + 1) (a + m + 1)) * qi (X (a + m + 2) - X a) := by
      show (dd X y (m + 1) (a + (m + 1) + 1) - dd X y (m + 1) (a + (m + 1) + 1 - 1)) * qi (X (a + (m + 1) + 1) - X (a + (m + 1) + 1 - (m + 1 + 1))) = _
      rw [show a + (m + 1) + 1 - 1 = a + m + 1 by omega, show a + (m + 1) + 1 - (m + 1 + 1) = a by omega, show a + (m + 1) + 1 = a + m + 2 by omega]
    rw [show a + 1 + m + 1 = a + m + 2 by omega] at b1 b2
    have e3 : pr X a (m + 2) x = (x - X a) * pr X (a + 1) (m + 1) x := pr_front X a x (m + 1)
    have e4 : pr X (a + 1) (m + 2) x = pr X (a + 1) (m + 1) x * (x - X (a + m + 2)) := by
      show pr X (a + 1) (m + 1) x * (x - X (a + 1 + (m + 1))) = _
      rw [show a + 1 + (m + 1) = a + m + 2 by omega]
    rw [show m + 1 + 1 = m + 2 from rfl, e2, e3, e4]
    -- both neighbours out of the common middle
    generalize nev X y (a + 1) m x = C at *
    generalize pr X (a + 1) (m + 1) x = M at *
    generalize dd X y (m + 1) (a + m + 2) = d2 at *
    generalize dd X y (m + 1) (a + m + 1) = d1 at *
    rw [b1, a2] at e1
    rw [b1, a2, e1]
    generalize qi (X (a + m + 2) - X a) = I at *
    generalize X (a + m + 2) = u at *
    generalize X a = v at *
    constructor <;> grind
theorem nev_at : ∀ (m a i : Nat), a ≤ i → i ≤ a + m → (∀ i j, a ≤ i → i < j → j ≤ a + m → X i ≠ X j) → nev X y a m (X i) = y i
  | 0, a, i, h1, h2, _ => by rw [show i = a by omega]; rfl
  | m + 1, a, i, h1, h2, h => by
    have hd := qi_mul (sub_ne (h a (a + m + 1) (by omega) (by omega) (by omega)).symm)
    have e1 : nev X y a (m + 1) (X i) = ((X i - X a) * nev X y (a + 1) m (X i) - (X i - X (a + m + 1)) * nev X y a m (X i)) * qi (X (a + m + 1) - X a) := rfl
    rw [e1]
    by_cases c1 : i = a
    · rw [c1, nev_at m a a (by omega) (by omega) fun i j h1 h2 h3 => h i j h1 h2 (by omega)]; grind
    · by_cases c2 : i = a + m + 1
      · rw [c2, nev_at m (a + 1) (a + m + 1) (by omega) (by omega) fun i j h1 h2 h3 => h i j (by omega) h2 (by omega)]; grind
      · rw [nev_at m a i (by omega) (by omega) fun i j h1 h2 h3 => h i j h1 h2 (by omega), nev_at m (a + 1) i (by omega) (by omega) fun i j h1 h2 h3 => h i j (by omega) h2 (by omega)]; grind
/-- Newton's form, nested -/
noncomputable def nest (D : Nat → Q) : Nat → Nat → Q → Q
  | _, 0, _ => 0
  | k, m + 1, x => D k + (x - X k) * nest D (k + 1) m x
theorem nest_last (D : Nat → Q) (x : Q) : ∀ (m k : Nat), nest X D k (m + 1) x = nest X D k m x + D (k + m) * pr X k m x
  | 0, k => by
    have e1 : nest X D k 1 x = D k + (x - X k) * 0 := rfl
    have e2 : nest X D k 0 x = 0 := rfl
    have e3 : pr X k 0 x = 1 := rfl
    rw [e1, e2, e3, Nat.add_zero]; grind
  | m + 1, k => by
    have ih := nest_last D x m (k + 1)
    have e1 : nest X D k (m + 2) x = D k + (x - X k) * nest X D (k + 1) (m + 1) x := rfl
    have e2 : nest X D k (m + 1) x = D k + (x - X k) * nest X D (k + 1) m x := rfl
    rw [e1, e2, ih, pr_front, show k + 1 + m = k + (m + 1) by omega]; grind
theorem nest_nev (x : Q) : ∀ m, (∀ i j, i < j → j ≤ m → X i ≠ X j) → nest X (fun k => dd X y k k) 0 (m + 1) x = nev X y 0 m x
  | 0, _ => by
    have e1 : nest X (fun k => dd X y k k) 0 1 x = y 0 + (x - X 0) * 0 := rfl
    have e2 : nev X y 0 0 x = y 0 := rfl
    rw [e1, e2]; grind
  | m + 1, h => by
    rw [nest_last, nest_nev x m fun i j h1 h2 => h i j h1 (by omega), (nev_both X y m 0 x fun i j _ h2 h3 => h i j h2 (by omega)).1]
    simp only [Nat.zero_add]
end

/-! ### what is written downwards -/
theorem down_get {φ : Nat → (Nat → Nat) → Nat} (hφ : ∀ i g g', (∀ j, j ≤ i → g j = g' j) → φ i g = φ i g') (k : Nat) : ∀ (m : Nat) (g : Nat → Nat) (j : Nat),
    downF (fun i g => upd g i (φ i g)) k m g j = if k ≤ j ∧ j < k + m then φ j g else g j
  | 0, g, j => by rw [if_neg (by omega)]; rfl
  | m + 1, g, j => by
    show downF (fun i g => upd g i (φ i g)) k m (upd g (k + m) (φ (k + m) g)) j = _
    rw [down_get hφ k m]
    by_cases h1 : k ≤ j ∧ j < k + m
    · rw [if_pos h1, if_pos (by omega)]
      exact hφ j _ _ fun i hi => by simp [upd, show i ≠ k + m by omega]
    · rw [if_neg h1]
      by_cases h2 : j = k + m
      · subst h2; rw [if_pos (by omega)]; simp [upd]
      · rw [if_neg (by omega)]; simp [upd, h2]

theorem ysG_get (Y : Nat → Nat) (n : Nat) : ∀ (m i : Nat) (g : Nat → Nat) (j : Nat), iterF (fun i g => upd g i (Y i)) m i g j = if i ≤ j ∧ j < i + m then Y j else g j
  | 0, i, g, j => by rw [if_neg (by omega)]; rfl
  | m + 1, i, g, j => by
    show iterF (fun i g => upd g i (Y i)) m (i + 1) (upd g i (Y i)) j = _
    rw [ysG_get Y n m]
    by_cases h1 : j = i
    · subst h1; rw [if_neg (by omega), if_pos (by omega)]; simp [upd]
    · by_cases h2 : i + 1 ≤ j ∧ j < i + 1 + m
      · rw [if_pos h2, if_pos (by omega)]
      · rw [if_neg h2, if_neg (by omega)]; simp [upd, h1]

theorem pass_get (X : Nat → Nat) (n k : Nat) (g : Nat → Nat) (j : Nat) (hk : k ≤ n) : ddPass X n k g j = if k ≤ j ∧ j < n then mulN (difN (g j) (g (j - 1))) (invN (difN (X j) (X (j - k)))) else g j := by
  have := down_get (φ := fun i g => mulN (difN (g i) (g (i - 1))) (invN (difN (X i) (X (i - k))))) (fun i g g' h => by
    rw [h i (Nat.le_refl _), h (i - 1) (by omega)]) k (n - k) g j
  rw [show k + (n - k) = n by omega] at this
  exact this

/-- the table behind so many passes -/
theorem dd_table {X Y : Nat → Nat} (hX : LtE X) (hY : LtE Y) {n : Nat} : ∀ (k : Nat), k + 1 ≤ n → ∀ j, j < n →
    q (iterF (ddPass X n) k 1 (ysG Y n) j) = dd (fun i => q (X i)) (fun i => q (Y i)) (if j ≤ k then j else k) j
  | 0, h, j, hj => by
    have e : iterF (ddPass X n) 0 1 (ysG Y n) j = Y j := by
      show ysG Y n j = Y j
      unfold ysG
      rw [ysG_get Y n, if_pos (by omega)]
    rw [e]
    by_cases h0 : j ≤ 0
    · rw [if_pos h0, show j = 0 by omega]; rfl
    · rw [if_neg h0]; rfl
  | k + 1, h, j, hj => by
    rw [iterF_last, pass_get X n (1 + k) _ j (by omega)]
    have lt : LtE (iterF (ddPass X n) k 1 (ysG Y n)) := iterF_inv (fun i g hg => ddPass_lt hg) _ _ _ (ysG_lt hY n)
    have ih := dd_table hX hY (n := n) k (by omega)
    by_cases h1 : 1 + k ≤ j ∧ j < n
    · rw [if_pos h1, q_mul, q_inv (difN_lt _ _), q_dif _ (lt _), q_dif _ (hX _), ih j hj, ih (j - 1) (by omega), if_neg (by omega : ¬ j ≤ k)]
      have e2 : (if j - 1 ≤ k then j - 1 else k) = k := by
        by_cases e : j - 1 ≤ k
        · rw [if_pos e]; omega
        · rw [if_neg e]
      have e3 : (if j ≤ k + 1 then j else k + 1) = k + 1 := by
        by_cases e : j ≤ k + 1
        · rw [if_pos e]; omega
        · rw [if_neg e]
      rw [e2, e3, show 1 + k = k + 1 by omega]
      rfl
    · rw [if_neg h1, ih j hj, if_pos (by omega : j ≤ k), if_pos (by omega : j ≤ k + 1)]
theorem ddG_q {X Y : Nat → Nat} (hX : LtE X) (hY : LtE Y) {n : Nat} (hn : 1 ≤ n) {j : Nat} (hj : j < n) : q (ddG X Y n j) = dd (fun i => q (X i)) (fun i => q (Y i)) j j := by
  unfold ddG
  rw [dd_table hX hY (n - 1) (by omega) j hj, if_pos (by omega)]

/-! ### multiplied out -/
theorem up_get (X : Nat → Nat) (k m : Nat) (g : Nat → Nat) (j : Nat) : downF (upSt X k) 1 m g j = if 1 ≤ j ∧ j < 1 + m then difN (g (j - 1)) (mulN (g j) (X k)) else g j :=
  down_get (φ := fun i g => difN (g (i - 1)) (mulN (g i) (X k))) (fun i g g' h => by
    rw [h i (Nat.le_refl _), h (i - 1) (by omega)]) 1 m g j
theorem out_ev {X D : Nat → Nat} (hX : LtE X) (hD : LtE D) {n k : Nat} {g : Nat → Nat} (hg : LtE g) (hn : 1 ≤ n) (htop : g (n - 1) = 0) (x : Q) :
    ev n (fun j => q (outSt X D n k g j)) x = q (D k) + (x - q (X k)) * ev n (fun j => q (g j)) x := by
  obtain ⟨m, rfl⟩ : ∃ m, n = m + 1 := ⟨n - 1, by omega⟩
  have hm : m + 1 - 1 = m := by omega
  rw [hm] at htop
  have e0 : outSt X D (m + 1) k g 0 = difN (D k) (mulN (g 0) (X k)) := by
    unfold outSt
    rw [hm, up_get, if_neg (by omega)]; simp [upd]
  have e1 : ∀ j, j < m → outSt X D (m + 1) k g (j + 1) = difN (g j) (mulN (g (j + 1)) (X k)) := fun j hj => by
    unfold outSt
    rw [hm]
    simp only [upd, Nat.succ_ne_zero, if_false]
    rw [up_get, if_pos (by omega)]
    simp
  have l1 : ev (m + 1) (fun j => q (outSt X D (m + 1) k g j)) x = q (outSt X D (m + 1) k g 0) + x * ev m (fun j => q (outSt X D (m + 1) k g (j + 1))) x := rfl
  have l2 : ev (m + 1) (fun j => q (g j)) x = q (g 0) + x * ev m (fun j => q (g (j + 1))) x := rfl
  have l3 : ev (m + 1) (fun j => q (g j)) x = ev m (fun j => q (g j)) x := by
    rw [ev_snoc]; simp only [htop, q_zero]; grind
  have l4 : ev m (fun j => q (outSt X D (m + 1) k g (j + 1))) x = ev m (fun j => q (g j)) x - q (X k) * ev m (fun j => q (g (j + 1))) x := by
    rw [← ev_smul, ← ev_sub]
    exact ev_congr fun j hj => by
      rw [e1 j hj, q_dif _ (mulN_lt _ _), q_mul]; grind
  rw [l1, e0, l4, q_dif _ (mulN_lt _ _), q_mul]
  rw [l3] at l2
  rw [l3]; grind
theorem outs_ev {X D : Nat → Nat} (hX : LtE X) (hD : LtE D) {n : Nat} (hn : 1 ≤ n) (x : Q) : ∀ (m k : Nat), k + m = n → ∃ g, LtE g ∧ (∀ j, n - k ≤ j → g j = 0) ∧
    ev n (fun j => q (g j)) x = nest (fun i => q (X i)) (fun i => q (D i)) k m x ∧ downF (outSt X D n) 0 n (fun _ => 0) = downF (outSt X D n) 0 k g
  | 0, k, h => ⟨fun _ => 0, ltE_zero, fun _ _ => rfl, by rw [show (fun (j : Nat) => q 0) = fun _ => (0 : Q) from rfl, ev_zero]; rfl, by rw [show k = n by omega]⟩
  | m + 1, k, h => by
    obtain ⟨g, g1, g2, g3, g4⟩ := outs_ev hX hD hn x m (k + 1) (by omega)
    refine ⟨outSt X D n k g, outSt_lt g1, ?_, ?_, ?_⟩
    · intro j hj
      unfold outSt
      have hj0 : j ≠ 0 := by omega
      simp only [upd, hj0, if_false]
      rw [up_get]
      by_cases hlt : 1 ≤ j ∧ j < 1 + (n - 1)
      · rw [if_pos hlt, g2 j (by omega), g2 (j - 1) (by omega), zero_mulN]
        unfold difN
        rw [negN_def, Nat.sub_zero, Nat.mod_self, addN_zero ell_pos]
      · rw [if_neg hlt]; exact g2 j (by omega)
    · rw [out_ev hX hD g1 hn (g2 _ (by omega)), g3]
      rfl
    · rw [g4]
      show downF (outSt X D n) 0 k (outSt X D n (0 + k) g) = _
      rw [Nat.zero_add]
theorem newt_ev {X Y : Nat → Nat} (hX : LtE X) (hY : LtE Y) {n : Nat} (hn : 1 ≤ n) (hd : ∀ i j, i < j → j < n → X i ≠ X j) (x : Q) :
    ev n (fun j => q (newtG X Y n j)) x = nev (fun i => q (X i)) (fun i => q (Y i)) 0 (n - 1) x := by
  obtain ⟨g, g1, g2, g3, g4⟩ := outs_ev hX (ddG_lt (X := X) hY n) hn x n 0 (by omega)
  have e : newtG X Y n = g := g4
  rw [e, g3]
  obtain ⟨m, rfl⟩ : ∃ m, n = m + 1 := ⟨n - 1, by omega⟩
  have hq : ∀ i j, i < j → j ≤ m → q (X i) ≠ q (X j) := fun i j h1 h2 => q_ne (hX i) (hX j) (hd i j h1 (by omega))
  rw [show m + 1 - 1 = m by omega, ← nest_nev _ _ x m hq]
  -- nest looks at D below n alone
  have hc : ∀ (m' k : Nat), k + m' ≤ m + 1 → nest (fun i => q (X i)) (fun i => q (ddG X Y (m + 1) i)) k m' x = nest (fun i => q (X i)) (fun k => dd (fun i => q (X i)) (fun i => q (Y i)) k k) k m' x := by
    intro m'
    induction m' with
    | zero => intro k _; rfl
    | succ m' ih =>
      intro k hk
      show q (ddG X Y (m + 1) k) + (x - q (X k)) * nest _ _ (k + 1) m' x = dd _ _ k k + (x - q (X k)) * nest _ _ (k + 1) m' x
      rw [ih (k + 1) (by omega), ddG_q hX hY (by omega) (show k < m + 1 by omega)]
  exact hc (m + 1) 0 (by omega)
theorem newt_at {X Y : Nat → Nat} (hX : LtE X) (hY : LtE Y) {n : Nat} (hn : 1 ≤ n) (hd : ∀ i j, i < j → j < n → X i ≠ X j) {i : Nat} (hi : i < n) :
    ev n (fun j => q (newtG X Y n j)) (q (X i)) = q (Y i) := by
  rw [newt_ev hX hY hn hd]
  exact nev_at (fun i => q (X i)) (fun i => q (Y i)) (n - 1) 0 i (by omega) (by omega) fun a b _ h2 h3 => q_ne (hX a) (hX b) (hd a b h2 (by omega))

/-! ### Lagrange's way -/
theorem times_ev {p : Nat → Nat} {a : Nat} (hp : LtE p) (m : Nat) (x : Q) : ∀ (j : Nat), j ≤ m → LtE (iterF (timesSt p a) j 0 (fun _ => 0)) ∧ (∀ i, j < i → iterF (timesSt p a) j 0 (fun _ => 0) i = 0) ∧
    ev (m + 1) (fun i => q (iterF (timesSt p a) j 0 (fun _ => 0) i)) x = (x - q a) * ev j (fun i => q (p i)) x
  | 0, _ => ⟨ltE_zero, fun _ _ => rfl, by rw [show (fun i => q (iterF (timesSt p a) 0 0 (fun _ => 0) i)) = fun _ => (0 : Q) from rfl, ev_zero]; show 0 = (x - q a) * 0; grind⟩
  | j + 1, h => by
    obtain ⟨h1, h2, h3⟩ := times_ev (a := a) hp m x j (by omega)
    have e0 : iterF (timesSt p a) (j + 1) 0 (fun _ => 0) = timesSt p a j (iterF (timesSt p a) j 0 (fun _ => 0)) := by rw [iterF_last, Nat.zero_add]
    rw [e0]
    generalize iterF (timesSt p a) j 0 (fun _ => 0) = g at *
    refine ⟨timesSt_lt h1, ?_, ?_⟩
    · intro i hi
      unfold timesSt
      simp only [upd, show i ≠ j by omega, show i ≠ j + 1 by omega, if_false]
      exact h2 i (by omega)
    · unfold timesSt
      have g1lt : LtE (upd g (j + 1) (addN (g (j + 1)) (p j))) := h1.upd (addN_lt _ _) _
      rw [ev_upd _ j _ x (m + 1) (by omega), ev_upd _ (j + 1) _ x (m + 1) (by omega), h3, ev_snoc, q_dif _ (mulN_lt _ _), q_mul, q_add]
      have e1 : pw x (j + 1) = x * pw x j := rfl
      rw [e1]; grind
theorem timesG_ev {p : Nat → Nat} {a m : Nat} (hp : LtE p) (x : Q) : ev (m + 1) (fun i => q (timesG p a m i)) x = (x - q a) * ev m (fun i => q (p i)) x :=
  (times_ev hp m x m (Nat.le_refl _)).2.2

/-- the product of (x - X k), k from .. on but i -/
noncomputable def prx (X : Nat → Q) (i : Nat) (x : Q) : Nat → Nat → Q
  | 0, _ => 1
  | j + 1, k => (if k = i then 1 else x - X k) * prx X i x j (k + 1)
theorem bas_ev {X : Nat → Nat} (hX : LtE X) (i : Nat) (x : Q) : ∀ (j k : Nat) (s : PB), PBOk s →
    ev (iterF (coefIn X i) j k s).m (fun t => q ((iterF (coefIn X i) j k s).p t)) x = ev s.m (fun t => q (s.p t)) x * prx (fun i => q (X i)) i x j k ∧
    q (iterF (coefIn X i) j k s).b = q s.b * prx (fun i => q (X i)) i (q (X i)) j k
  | 0, k, s, _ => by
    have e : ∀ y, prx (fun i => q (X i)) i y 0 k = 1 := fun _ => rfl
    rw [e, e]
    have e2 : iterF (coefIn X i) 0 k s = s := rfl
    rw [e2]; constructor <;> grind
  | j + 1, k, s, hs => by
    obtain ⟨h1, h2⟩ := bas_ev hX i x j (k + 1) (coefIn X i k s) (coefIn_ok hs)
    have e : ∀ y, prx (fun i => q (X i)) i y (j + 1) k = (if k = i then 1 else y - q (X k)) * prx (fun i => q (X i)) i y j (k + 1) := fun _ => rfl
    have e2 : iterF (coefIn X i) (j + 1) k s = iterF (coefIn X i) j (k + 1) (coefIn X i k s) := rfl
    rw [e2, h1, h2, e, e]
    by_cases hk : k = i
    · have e3 : coefIn X i k s = s := by unfold coefIn; rw [if_pos hk]
      rw [e3, if_pos hk, if_pos hk]; constructor <;> grind
    · have e3 : coefIn X i k s = ⟨timesG s.p (X k) s.m, s.m + 1, mulN s.b (difN (X i) (X k))⟩ := by unfold coefIn; rw [if_neg hk]
      rw [e3, if_neg hk, if_neg hk]
      show ev (s.m + 1) (fun t => q (timesG s.p (X k) s.m t)) x * _ = _ ∧ q (mulN s.b (difN (X i) (X k))) * _ = _
      rw [timesG_ev hs.p, q_mul, q_dif _ (hX k)]; constructor <;> grind
theorem onePB_ev (x : Q) : ev onePB.m (fun t => q (onePB.p t)) x = 1 := by
  show ev 1 (fun t => q (if t = 0 then 1 else 0)) x = 1
  have e : ev 1 (fun t => q (if t = 0 then 1 else 0)) x = q 1 + x * 0 := rfl
  rw [e, q_one]; grind
theorem prx_zero {X : Nat → Q} {i l : Nat} (hl : l ≠ i) : ∀ (j k : Nat), k ≤ l → l < k + j → prx X i (X l) j k = 0
  | 0, k, h1, h2 => by omega
  | j + 1, k, h1, h2 => by
    have e : prx X i (X l) (j + 1) k = (if k = i then 1 else X l - X k) * prx X i (X l) j (k + 1) := rfl
    rw [e]
    by_cases hk : k = l
    · rw [if_neg (by omega), hk]; grind
    · rw [prx_zero hl j (k + 1) (by omega) (by omega)]; grind
theorem prx_ne {X : Nat → Q} {i : Nat} : ∀ (j k : Nat), (∀ l, k ≤ l → l < k + j → l ≠ i → X i ≠ X l) → prx X i (X i) j k ≠ 0
  | 0, k, _ => by
    show (1 : Q) ≠ 0
    intro h
    have := q_inj one_lt_ell ell_pos (by rw [q_one, q_zero]; exact h)
    omega
  | j + 1, k, h => by
    have e : prx X i (X i) (j + 1) k = (if k = i then 1 else X i - X k) * prx X i (X i) j (k + 1) := rfl
    have ih := prx_ne j (k + 1) fun l h1 h2 h3 => h l (by omega) (by omega) h3
    rw [e]
    intro h0
    rcases no_zero h0 with h1 | h1
    · by_cases hk : k = i
      · rw [if_pos hk] at h1
        have := q_inj one_lt_ell ell_pos (by rw [q_one, q_zero]; exact h1)
        omega
      · rw [if_neg hk] at h1
        exact sub_ne (h k (by omega) (by omega) hk) h1
    · exact ih h1
theorem add_ev {f0 : Nat} {p : Nat → Nat} (hp : LtE p) (n : Nat) (x : Q) : ∀ (j k : Nat) (g : Nat → Nat), k + j ≤ n → LtE g →
    ev n (fun i => q (iterF (addSt f0 p) j k g i)) x = ev n (fun i => q (g i)) x + q f0 * (ev (k + j) (fun i => q (p i)) x - ev k (fun i => q (p i)) x)
  | 0, k, g, _, _ => by
    show ev n (fun i => q (g i)) x = _
    rw [Nat.add_zero]; grind
  | j + 1, k, g, h, hg => by
    have e : iterF (addSt f0 p) (j + 1) k g = iterF (addSt f0 p) j (k + 1) (addSt f0 p k g) := rfl
    rw [e, add_ev hp n x j (k + 1) (addSt f0 p k g) (by omega) (hg.upd (addN_lt _ _) _)]
    unfold addSt
    rw [ev_upd g k _ x n (by omega), q_add, q_mul, ev_snoc k (fun i => q (p i)) x, show k + 1 + j = k + (j + 1) by omega]; grind
theorem coefSt_ev {X Y : Nat → Nat} (hX : LtE X) (hY : LtE Y) {n i : Nat} (hi : i < n) {g : Nat → Nat} (hg : LtE g) (x : Q) :
    ev n (fun j => q (coefSt X Y n i g j)) x = ev n (fun j => q (g j)) x + q (Y i) * qi (prx (fun i => q (X i)) i (q (X i)) n 0) * prx (fun i => q (X i)) i x n 0 := by
  unfold coefSt
  have hok := basPB_ok X i n
  obtain ⟨b1, b2⟩ := bas_ev hX i x n 0 onePB onePB_ok
  have hm := basPB_m X hi
  rw [add_ev hok.p n x n 0 g (by omega) hg, q_mul, q_inv hok.b, Nat.zero_add]
  have e1 : ev n (fun i_1 => q ((basPB X i n).p i_1)) x = prx (fun i => q (X i)) i x n 0 := by
    have := b1
    rw [onePB_ev] at this
    rw [show iterF (coefIn X i) n 0 onePB = basPB X i n from rfl, hm] at this
    rw [this]; grind
  have e2 : q (basPB X i n).b = prx (fun i => q (X i)) i (q (X i)) n 0 := by
    rw [show iterF (coefIn X i) n 0 onePB = basPB X i n from rfl] at b2
    rw [b2, show onePB.b = 1 from rfl, q_one]; grind
  have e3 : ev 0 (fun i_1 => q ((basPB X i n).p i_1)) x = 0 := rfl
  rw [e1, e2, e3]; grind
theorem coef_at {X Y : Nat → Nat} (hX : LtE X) (hY : LtE Y) {n l : Nat} (hl : l < n) (hd : ∀ i j, i < j → j < n → X i ≠ X j) : ∀ (j i : Nat) (g : Nat → Nat), i + j = n → LtE g →
    ev n (fun t => q (iterF (coefSt X Y n) j i g t)) (q (X l)) = ev n (fun t => q (g t)) (q (X l)) + (if i ≤ l then q (Y l) else 0)
  | 0, i, g, h, _ => by
    rw [if_neg (by omega)]
    show ev n (fun t => q (g t)) (q (X l)) = _
    grind
  | j + 1, i, g, h, hg => by
    have e : iterF (coefSt X Y n) (j + 1) i g = iterF (coefSt X Y n) j (i + 1) (coefSt X Y n i g) := rfl
    rw [e, coef_at hX hY hl hd j (i + 1) _ (by omega) (coefSt_lt hg), coefSt_ev hX hY (by omega) hg]
    by_cases hil : i = l
    · subst hil
      have hne : prx (fun i => q (X i)) i (q (X i)) n 0 ≠ 0 := prx_ne (X := fun i => q (X i)) n 0 fun l h1 h2 h3 => by
        rcases Nat.lt_or_gt_of_ne h3 with h4 | h4
        · exact (q_ne (hX l) (hX i) (hd l i h4 hl)).symm
        · exact q_ne (hX i) (hX l) (hd i l h4 (by omega))
      have := qi_mul hne
      rw [if_neg (by omega), if_pos (by omega)]; grind
    · have hz : prx (fun i => q (X i)) i (q (X l)) n 0 = 0 := prx_zero (X := fun i => q (X i)) (fun e => hil e.symm) n 0 (by omega) (by omega)
      rw [hz]
      by_cases h1 : i + 1 ≤ l
      · rw [if_pos h1, if_pos (by omega)]; grind
      · rw [if_neg h1, if_neg (by omega)]; grind
theorem coefG_at {X Y : Nat → Nat} (hX : LtE X) (hY : LtE Y) {n l : Nat} (hl : l < n) (hd : ∀ i j, i < j → j < n → X i ≠ X j) : ev n (fun t => q (coefG X Y n t)) (q (X l)) = q (Y l) := by
  unfold coefG
  rw [coef_at hX hY hl hd n 0 _ (by omega) ltE_zero, if_pos (by omega), show (fun t => q ((fun _ => 0) t)) = fun (_ : Nat) => (0 : Q) from rfl, ev_zero]; grind
/-- one polynomial -/
theorem newt_coef {X Y : Nat → Nat} (hX : LtE X) (hY : LtE Y) {n : Nat} (hn : 1 ≤ n) (hd : ∀ i j, i < j → j < n → X i ≠ X j) : ∀ i, i < n → newtG X Y n i = coefG X Y n i := fun i hi => by
  have := unique (n := n) (c := fun j => q (newtG X Y n j)) (d := fun j => q (coefG X Y n j)) (r := fun i => q (X i)) (fun l hl => by rw [newt_at hX hY hn hd hl, coefG_at hX hY hl hd]) (fun a b h1 h2 => q_ne (hX a) (hX b) (hd a b h1 h2)) i hi
  exact q_inj (newtG_lt X Y n i) (coefG_lt X Y n i) this
end Go.Proofs.Ytogcijgklnfjjaa

