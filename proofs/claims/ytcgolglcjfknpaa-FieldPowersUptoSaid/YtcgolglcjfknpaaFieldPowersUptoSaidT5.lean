/- FieldPowers: for any field element and any bytes whose data stay within 1,048,576: Invert, Power, Legendre, IsNegative and Abs answer as the document, and the bytes that were handed in stand as they stood. -/
import Derived.Test.YtcgolglcjfknpaaFieldPowersUptoSaidT4
import Derived.WalkKit
import Derived.ProofKit
import Derived.JoinedCond
set_option linter.unusedVariables false
set_option linter.unusedSimpArgs false

/- the document's functions, as numbers. -/
namespace Go.Proofs.Ytcgolglcjfknpaa
open Go Go.Eng
set_option maxRecDepth 100000
set_option linter.unusedSimpArgs false
theorem addN_sub {a b : Nat} : addN a (subN 0 b) = subN a b := by rw [addN_def, subN_def, subN_def, Nat.zero_add, Nat.add_mod_mod]
theorem ref_zero : List.replicate 16 (0 : Int) = refN 0 := by rw [refN_def]; decide
theorem ref_one : (List.replicate 16 (0 : Int)).set (mulE (Int.toNat 0) 1) 1 = refN 1 := by rw [refN_def]; decide
theorem ref_dec {a b : Nat} (ha : a < p25519) (hb : b < p25519) : decide (refN a = refN b) = decide (a = b) := by
  simp only [refN_inj (Nat.lt_trans ha two255) (Nat.lt_trans hb two255)]
theorem ref_odd {v : Nat} : (((refN v).getD (Int.toNat 0) 0).tmod 2 == 1) = (v % 2 == 1) := by
  rw [refN_def, show Int.toNat 0 = 0 from rfl, nats_getD, digs_getD _ _ _ _ (by decide), Nat.pow_zero, Nat.div_one]
  show ((((v % 65536 % 2 : Nat) : Int)) == 1) = _
  rw [show v % 65536 % 2 = v % 2 by omega]
  rcases Nat.mod_two_eq_zero_or_one v with h | h <;> rw [h] <;> rfl
def intL (x : Int) : List Int := [IntKind.u8.wrap (shrI .u64 x 0), IntKind.u8.wrap (shrI .u64 x 8), IntKind.u8.wrap (shrI .u64 x 16), IntKind.u8.wrap (shrI .u64 x 24), IntKind.u8.wrap (shrI .u64 x 32), IntKind.u8.wrap (shrI .u64 x 40), IntKind.u8.wrap (shrI .u64 x 48), IntKind.u8.wrap (shrI .u64 x 56)] ++ List.replicate 24 0
theorem int_eq {R : Type} (x : Int) (k : List DV → Option R) : f96_raw 0 x k = bif okB (intL x) then bif okD (refN (vB (intL x))) then k [.v (.one (.ints .u8 32 (feN (numD (refN (vB (intL x)))))))] else none else none := by kernel_rfl
theorem intL_nats (n : Nat) : intL (n : Int) = nats (digs 256 8 n ++ List.replicate 24 0) := by
  unfold intL
  rw [show shrI .u64 (n : Int) 0 = ((n / 2 ^ 0 : Nat) : Int) from shrN (k := .u64) (m := 0) (by decide) n, show shrI .u64 (n : Int) 8 = ((n / 2 ^ 8 : Nat) : Int) from shrN (k := .u64) (m := 8) (by decide) n, show shrI .u64 (n : Int) 16 = ((n / 2 ^ 16 : Nat) : Int) from shrN (k := .u64) (m := 16) (by decide) n, show shrI .u64 (n : Int) 24 = ((n / 2 ^ 24 : Nat) : Int) from shrN (k := .u64) (m := 24) (by decide) n, show shrI .u64 (n : Int) 32 = ((n / 2 ^ 32 : Nat) : Int) from shrN (k := .u64) (m := 32) (by decide) n, show shrI .u64 (n : Int) 40 = ((n / 2 ^ 40 : Nat) : Int) from shrN (k := .u64) (m := 40) (by decide) n, show shrI .u64 (n : Int) 48 = ((n / 2 ^ 48 : Nat) : Int) from shrN (k := .u64) (m := 48) (by decide) n, show shrI .u64 (n : Int) 56 = ((n / 2 ^ 56 : Nat) : Int) from shrN (k := .u64) (m := 56) (by decide) n]
  simp only [wm8, digs, Nat.div_div_eq_div_mul, Nat.pow_zero, Nat.div_one]
  rfl
theorem int_num {n : Nat} (h : n < 18446744073709551616) : okB (intL (n : Int)) = true ∧ vB (intL (n : Int)) = n := by
  rw [intL_nats]
  have hb : ∀ b ∈ digs 256 8 n ++ List.replicate 24 0, b < 256 := by
    intro b hb
    rcases List.mem_append.1 hb with hb | hb
    · exact digs_lt (by decide) b hb
    · rw [List.eq_of_mem_replicate hb]; decide
  refine ⟨okB_nats (by rw [List.length_append, digs_length, List.length_replicate]) hb, ?_⟩
  rw [vB_def, numB_nats, valB_append, digs_val, show valB 256 (List.replicate 24 0) = 0 by decide, Nat.mul_zero, Nat.add_zero]
  rw [Nat.mod_eq_of_lt (show n < 256 ^ 8 by exact h), Nat.mod_eq_of_lt (Nat.lt_trans h (by decide))]

theorem f44_num {R : Type} (x : List Int) (y : List Int) (hx : (okB x) = true) (hy : (okB y) = true) (k : List DV → Option R) : f44_raw 0 x y k = k [.v (.one (.ints .u8 32 (feN (addN (vB x) (vB y)))))] := by
  unfold f44_raw
  try dsimp only
  simp only [hx, hy, okD_refN, numD_ref (vB_lt _), numD_ref (addN_lt _ _), numD_ref (subN_lt _ _), numD_ref (mulN_lt _ _), numD_ref (pw_lt _ _), decide_eq_true (vB_lt _), Bool.and_self, cond_true]
noncomputable def I44 : (R : Type) → List DV → (List DV → Option R) → Option R := fun _ ds k => match ds with
  | [.v (.one (.ints .u8 32 x)), .v (.one (.ints .u8 32 y))] => bif okB x && okB y then k [.v (.one (.ints .u8 32 (feN (addN (vB x) (vB y)))))] else none
  | _ => none
theorem c44 : Contract Try.prog 44 { sig := S44, impl := I44 } := by
  refine Contract.refine fun R ds k r h => ⟨_, f44_contract 0 HE_ok, ?_⟩
  unfold I44 at h
  split at h
  · rename_i x y
    rcases hc : okB x && okB y with _ | _
    · rw [hc] at h; cases h
    · rw [hc, cond_true] at h
      simp only [Bool.and_eq_true] at hc
      rw [f44_raw_eq, f44_num x y hc.1 hc.2]; exact h
  · cases h

theorem f46_num {R : Type} (x : List Int) (y : List Int) (hx : (okB x) = true) (hy : (okB y) = true) (k : List DV → Option R) : f46_raw 0 x y k = k [.v (.one (.ints .u8 32 (feN (subN (vB x) (vB y)))))] := by
  unfold f46_raw
  try dsimp only
  simp only [hx, hy, okD_refN, numD_ref (vB_lt _), numD_ref (addN_lt _ _), numD_ref (subN_lt _ _), numD_ref (mulN_lt _ _), numD_ref (pw_lt _ _), decide_eq_true (vB_lt _), Bool.and_self, cond_true, addN_sub]
noncomputable def I46 : (R : Type) → List DV → (List DV → Option R) → Option R := fun _ ds k => match ds with
  | [.v (.one (.ints .u8 32 x)), .v (.one (.ints .u8 32 y))] => bif okB x && okB y then k [.v (.one (.ints .u8 32 (feN (subN (vB x) (vB y)))))] else none
  | _ => none
theorem c46 : Contract Try.prog 46 { sig := S46, impl := I46 } := by
  refine Contract.refine fun R ds k r h => ⟨_, f46_contract 0 HE_ok, ?_⟩
  unfold I46 at h
  split at h
  · rename_i x y
    rcases hc : okB x && okB y with _ | _
    · rw [hc] at h; cases h
    · rw [hc, cond_true] at h
      simp only [Bool.and_eq_true] at hc
      rw [f46_raw_eq, f46_num x y hc.1 hc.2]; exact h
  · cases h

theorem f47_num {R : Type} (x : List Int) (hx : (okB x) = true) (k : List DV → Option R) : f47_raw 0 x k = k [.v (.one (.ints .u8 32 (feN (subN 0 (vB x)))))] := by
  unfold f47_raw
  try dsimp only
  simp only [hx, okD_refN, numD_ref (vB_lt _), numD_ref (addN_lt _ _), numD_ref (subN_lt _ _), numD_ref (mulN_lt _ _), numD_ref (pw_lt _ _), decide_eq_true (vB_lt _), Bool.and_self, cond_true]
noncomputable def I47 : (R : Type) → List DV → (List DV → Option R) → Option R := fun _ ds k => match ds with
  | [.v (.one (.ints .u8 32 x))] => bif okB x then k [.v (.one (.ints .u8 32 (feN (subN 0 (vB x)))))] else none
  | _ => none
theorem c47 : Contract Try.prog 47 { sig := S47, impl := I47 } := by
  refine Contract.refine fun R ds k r h => ⟨_, f47_contract 0 HE_ok, ?_⟩
  unfold I47 at h
  split at h
  · rename_i x
    rcases hc : okB x with _ | _
    · rw [hc] at h; cases h
    · rw [hc, cond_true] at h
      rw [f47_raw_eq, f47_num x hc]; exact h
  · cases h

theorem f50_num {R : Type} (x : List Int) (y : List Int) (hx : (okB x) = true) (hy : (okB y) = true) (k : List DV → Option R) : f50_raw 0 x y k = k [.v (.one (.ints .u8 32 (feN (mulN (vB x) (vB y)))))] := by
  unfold f50_raw
  try dsimp only
  simp only [hx, hy, okD_refN, numD_ref (vB_lt _), numD_ref (addN_lt _ _), numD_ref (subN_lt _ _), numD_ref (mulN_lt _ _), numD_ref (pw_lt _ _), decide_eq_true (vB_lt _), Bool.and_self, cond_true]
noncomputable def I50 : (R : Type) → List DV → (List DV → Option R) → Option R := fun _ ds k => match ds with
  | [.v (.one (.ints .u8 32 x)), .v (.one (.ints .u8 32 y))] => bif okB x && okB y then k [.v (.one (.ints .u8 32 (feN (mulN (vB x) (vB y)))))] else none
  | _ => none
theorem c50 : Contract Try.prog 50 { sig := S50, impl := I50 } := by
  refine Contract.refine fun R ds k r h => ⟨_, f50_contract 0 HE_ok, ?_⟩
  unfold I50 at h
  split at h
  · rename_i x y
    rcases hc : okB x && okB y with _ | _
    · rw [hc] at h; cases h
    · rw [hc, cond_true] at h
      simp only [Bool.and_eq_true] at hc
      rw [f50_raw_eq, f50_num x y hc.1 hc.2]; exact h
  · cases h

theorem f26_num {R : Type} (x : List Int) (hx : (okB x) = true) (k : List DV → Option R) : f26_raw 0 x k = k [.v (.one (.ints .u8 32 (feN (pw (vB x) pm2))))] := by
  unfold f26_raw
  try dsimp only
  simp only [hx, okD_refN, numD_ref (vB_lt _), numD_ref (addN_lt _ _), numD_ref (subN_lt _ _), numD_ref (mulN_lt _ _), numD_ref (pw_lt _ _), decide_eq_true (vB_lt _), Bool.and_self, cond_true, okE_exInv, num_exInv]
  rfl
noncomputable def I26 : (R : Type) → List DV → (List DV → Option R) → Option R := fun _ ds k => match ds with
  | [.v (.one (.ints .u8 32 x))] => bif okB x then k [.v (.one (.ints .u8 32 (feN (pw (vB x) pm2))))] else none
  | _ => none
theorem c26 : Contract Try.prog 26 { sig := S26, impl := I26 } := by
  refine Contract.refine fun R ds k r h => ⟨_, f26_contract 0 HE_ok, ?_⟩
  unfold I26 at h
  split at h
  · rename_i x
    rcases hc : okB x with _ | _
    · rw [hc] at h; cases h
    · rw [hc, cond_true] at h
      rw [f26_raw_eq, f26_num x hc]; exact h
  · cases h

theorem f28_num {R : Type} (x : List Int) (e : List Int) (hx : (okB x) = true) (he : (okE e) = true) (k : List DV → Option R) : f28_raw 0 x e k = k [.v (.one (.ints .u8 32 (feN (pw (vB x) (numB e)))))] := by
  unfold f28_raw
  try dsimp only
  simp only [hx, he, okD_refN, numD_ref (vB_lt _), numD_ref (addN_lt _ _), numD_ref (subN_lt _ _), numD_ref (mulN_lt _ _), numD_ref (pw_lt _ _), decide_eq_true (vB_lt _), Bool.and_self, cond_true]
noncomputable def I28 : (R : Type) → List DV → (List DV → Option R) → Option R := fun _ ds k => match ds with
  | [.v (.one (.ints .u8 32 x)), .lst .u8 1 e] => bif okB x && okE e then k [.v (.one (.ints .u8 32 (feN (pw (vB x) (numB e)))))] else none
  | _ => none
theorem c28 : Contract Try.prog 28 { sig := S28, impl := I28 } := by
  refine Contract.refine fun R ds k r h => ⟨_, f28_contract 0 HE_ok, ?_⟩
  unfold I28 at h
  split at h
  · rename_i x e
    rcases hc : okB x && okE e with _ | _
    · rw [hc] at h; cases h
    · rw [hc, cond_true] at h
      simp only [Bool.and_eq_true] at hc
      rw [f28_raw_eq, f28_num x e hc.1 hc.2]; exact h
  · cases h

theorem f29_num {R : Type} (x : List Int) (hx : (okB x) = true) (k : List DV → Option R) : f29_raw 0 x k = k [.v (.one (.int .i64 (legI (vB x))))] := by
  unfold f29_raw
  try dsimp only
  simp only [hx, okD_refN, numD_ref (vB_lt _), numD_ref (addN_lt _ _), numD_ref (subN_lt _ _), numD_ref (mulN_lt _ _), numD_ref (pw_lt _ _), decide_eq_true (vB_lt _), Bool.and_self, cond_true, okE_exHalf, num_exHalf]
  rw [ref_zero, show (refN 0).set (mulE (Int.toNat 0) 1) 1 = refN 1 from ref_zero ▸ ref_one, ref_dec (pw_lt _ _) (by decide), ref_dec (pw_lt _ _) (by decide), legI_def]
  exact sel3 _ _ k
noncomputable def I29 : (R : Type) → List DV → (List DV → Option R) → Option R := fun _ ds k => match ds with
  | [.v (.one (.ints .u8 32 x))] => bif okB x then k [.v (.one (.int .i64 (legI (vB x))))] else none
  | _ => none
theorem c29 : Contract Try.prog 29 { sig := S29, impl := I29 } := by
  refine Contract.refine fun R ds k r h => ⟨_, f29_contract 0 HE_ok, ?_⟩
  unfold I29 at h
  split at h
  · rename_i x
    rcases hc : okB x with _ | _
    · rw [hc] at h; cases h
    · rw [hc, cond_true] at h
      rw [f29_raw_eq, f29_num x hc]; exact h
  · cases h

theorem f31_num {R : Type} (x : List Int) (hx : (okB x) = true) (k : List DV → Option R) : f31_raw 0 x k = k [.v (.one (.bool (vB x % 2 == 1)))] := by
  unfold f31_raw
  try dsimp only
  rw [hx, cond_true, ref_odd]
noncomputable def I31 : (R : Type) → List DV → (List DV → Option R) → Option R := fun _ ds k => match ds with
  | [.v (.one (.ints .u8 32 x))] => bif okB x then k [.v (.one (.bool (vB x % 2 == 1)))] else none
  | _ => none
theorem c31 : Contract Try.prog 31 { sig := S31, impl := I31 } := by
  refine Contract.refine fun R ds k r h => ⟨_, f31_contract 0 HE_ok, ?_⟩
  unfold I31 at h
  split at h
  · rename_i x
    rcases hc : okB x with _ | _
    · rw [hc] at h; cases h
    · rw [hc, cond_true] at h
      rw [f31_raw_eq, f31_num x hc]; exact h
  · cases h

theorem f71_num {R : Type} (e : List Int) (he : (okE e) = true) (hh : decide (e.length ≤ 63) = true) (k : List DV → Option R) : f71_raw 0 e k = k [.v (.one (.ints .u8 32 (feN (numB e % p25519))))] := by
  unfold f71_raw
  try dsimp only
  rw [he, okL_digL (of_decide_eq_true hh), numD_digL he, decide_eq_true (show e.length ≤ 1000000 by have := of_decide_eq_true hh; omega), okD_refN, numD_refm]
  rfl
noncomputable def I71 : (R : Type) → List DV → (List DV → Option R) → Option R := fun _ ds k => match ds with
  | [.lst .u8 1 e] => bif okE e && decide (e.length ≤ 63) then k [.v (.one (.ints .u8 32 (feN (numB e % p25519))))] else none
  | _ => none
theorem c71 : Contract Try.prog 71 { sig := S71, impl := I71 } := by
  refine Contract.refine fun R ds k r h => ⟨_, f71_contract 0 HE_ok, ?_⟩
  unfold I71 at h
  split at h
  · rename_i e
    rcases hc : okE e && decide (e.length ≤ 63) with _ | _
    · rw [hc] at h; cases h
    · rw [hc, cond_true] at h
      rw [Bool.and_eq_true] at hc; rw [f71_raw_eq, f71_num e hc.1 hc.2]; exact h
  · cases h

theorem f96_num {R : Type} (x : Int) (hx : (okU x) = true) (k : List DV → Option R) : f96_raw 0 x k = k [.v (.one (.ints .u8 32 (feN (x.toNat))))] := by
  obtain ⟨n, rfl, hn⟩ := okU_of hx
  obtain ⟨h1, h2⟩ := int_num hn
  rw [int_eq, h1, h2, okD_refN, numD_ref (Nat.lt_trans hn (by decide))]
  rfl
noncomputable def I96 : (R : Type) → List DV → (List DV → Option R) → Option R := fun _ ds k => match ds with
  | [.v (.one (.int .u64 x))] => bif okU x then k [.v (.one (.ints .u8 32 (feN (x.toNat))))] else none
  | _ => none
theorem c96 : Contract Try.prog 96 { sig := S96, impl := I96 } := by
  refine Contract.refine fun R ds k r h => ⟨_, f96_contract 0 HE_ok, ?_⟩
  unfold I96 at h
  split at h
  · rename_i x
    rcases hc : okU x with _ | _
    · rw [hc] at h; cases h
    · rw [hc, cond_true] at h
      rw [f96_raw_eq, f96_num x hc]; exact h
  · cases h

theorem f52_num {R : Type} (x : List Int) (y : List Int) (hx : (okB x) = true) (hy : (okB y) = true) (k : List DV → Option R) : f52_raw 0 x y k = k [.v (.one (.bool (decide (vB x = vB y))))] := by
  unfold f52_raw
  try dsimp only
  rw [hx, hy, cond_true, cond_true, ref_dec (vB_lt _) (vB_lt _)]
noncomputable def I52 : (R : Type) → List DV → (List DV → Option R) → Option R := fun _ ds k => match ds with
  | [.v (.one (.ints .u8 32 x)), .v (.one (.ints .u8 32 y))] => bif okB x && okB y then k [.v (.one (.bool (decide (vB x = vB y))))] else none
  | _ => none
theorem c52 : Contract Try.prog 52 { sig := S52, impl := I52 } := by
  refine Contract.refine fun R ds k r h => ⟨_, f52_contract 0 HE_ok, ?_⟩
  unfold I52 at h
  split at h
  · rename_i x y
    rcases hc : okB x && okB y with _ | _
    · rw [hc] at h; cases h
    · rw [hc, cond_true] at h
      simp only [Bool.and_eq_true] at hc
      rw [f52_raw_eq, f52_num x y hc.1 hc.2]; exact h
  · cases h

theorem f54_num {R : Type} (x : List Int) (y : List Int) (c : Bool) (hx : (okB x) = true) (hy : (okB y) = true) (k : List DV → Option R) : f54_raw 0 x y c k = k [.v (.one (.ints .u8 32 (feN (bif c then vB y else vB x))))] := by
  unfold f54_raw
  cases c
  · simp only [hx, okD_refN, numD_ref (vB_lt _), numD_ref (addN_lt _ _), numD_ref (subN_lt _ _), numD_ref (mulN_lt _ _), numD_ref (pw_lt _ _), decide_eq_true (vB_lt _), Bool.and_self, cond_true, cond_false]
  · simp only [hy, okD_refN, numD_ref (vB_lt _), numD_ref (addN_lt _ _), numD_ref (subN_lt _ _), numD_ref (mulN_lt _ _), numD_ref (pw_lt _ _), decide_eq_true (vB_lt _), Bool.and_self, cond_true]
noncomputable def I54 : (R : Type) → List DV → (List DV → Option R) → Option R := fun _ ds k => match ds with
  | [.v (.one (.ints .u8 32 x)), .v (.one (.ints .u8 32 y)), .v (.one (.bool c))] => bif okB x && okB y then k [.v (.one (.ints .u8 32 (feN (bif c then vB y else vB x))))] else none
  | _ => none
theorem c54 : Contract Try.prog 54 { sig := S54, impl := I54 } := by
  refine Contract.refine fun R ds k r h => ⟨_, f54_contract 0 HE_ok, ?_⟩
  unfold I54 at h
  split at h
  · rename_i x y c
    rcases hc : okB x && okB y with _ | _
    · rw [hc] at h; cases h
    · rw [hc, cond_true] at h
      simp only [Bool.and_eq_true] at hc
      rw [f54_raw_eq, f54_num x y c hc.1 hc.2]; exact h
  · cases h

noncomputable def HF : Ctx := (44, { sig := S44, impl := I44 }) :: (46, { sig := S46, impl := I46 }) :: (47, { sig := S47, impl := I47 }) :: (50, { sig := S50, impl := I50 }) :: (26, { sig := S26, impl := I26 }) :: (28, { sig := S28, impl := I28 }) :: (29, { sig := S29, impl := I29 }) :: (31, { sig := S31, impl := I31 }) :: (71, { sig := S71, impl := I71 }) :: (96, { sig := S96, impl := I96 }) :: (52, { sig := S52, impl := I52 }) :: (54, { sig := S54, impl := I54 }) :: HE
theorem HF_ok : CtxOk Try.prog HF := ctxOk_cons ok44 rfl c44 (ctxOk_cons ok46 rfl c46 (ctxOk_cons ok47 rfl c47 (ctxOk_cons ok50 rfl c50 (ctxOk_cons ok26 rfl c26 (ctxOk_cons ok28 rfl c28 (ctxOk_cons ok29 rfl c29 (ctxOk_cons ok31 rfl c31 (ctxOk_cons ok71 rfl c71 (ctxOk_cons ok96 rfl c96 (ctxOk_cons ok52 rfl c52 (ctxOk_cons ok54 rfl c54 HE_ok)))))))))))
end Go.Proofs.Ytcgolglcjfknpaa

/- What rime/rimeref01.Square comes to. MADE BY PROGRAM (wip/tools/mkfn.py, EngGen.lean). -/
namespace Go.Proofs.Ytcgolglcjfknpaa
open Go Go.Eng
set_option maxRecDepth 100000
set_option linter.unusedVariables false

noncomputable def f51_raw {R : Type} (N : Nat) (x : List Int) (k : List DV → Option R) : Option R :=
 bif okB x && okB x then k [DV.v (SV.one (At.ints IntKind.u8 32 (feN (mulN (vB x) (vB x)))))] else Option.none


noncomputable def E51 (N : Nat) : Env := { Θ := Th, Γ := HF, K := K51, ν := N51, fuel := 60, lp := [] }


theorem f51_contract (N : Nat) (hΓ : CtxOk Try.prog HF) : Contract Try.prog 51 { sig := S51, impl := fun _ ds k => call (E51 N) S51 6 B51 R51 ds k } :=
  call_contract (E := E51 N) thOk hΓ mixed ok51.look ok51.body ok51.n ok51.rv ok51.name rfl (by decide) (loopsOk_of (l := []) (by kernel_rfl) trivial)
theorem f51_raw_eq {R : Type} (N : Nat) (x : List Int) (k : List DV → Option R) : call (E51 N) S51 6 B51 R51 [.v (.one (.ints .u8 32 x))] k = f51_raw N x k := by kernel_rfl
end Go.Proofs.Ytcgolglcjfknpaa

/- What rime/rimeref01.Double comes to. MADE BY PROGRAM (wip/tools/mkfn.py, EngGen.lean). -/
namespace Go.Proofs.Ytcgolglcjfknpaa
open Go Go.Eng
set_option maxRecDepth 100000
set_option linter.unusedVariables false

noncomputable def f49_raw {R : Type} (N : Nat) (x : List Int) (k : List DV → Option R) : Option R :=
 bif okB x && okB x then k [DV.v (SV.one (At.ints IntKind.u8 32 (feN (addN (vB x) (vB x)))))] else Option.none


noncomputable def E49 (N : Nat) : Env := { Θ := Th, Γ := HF, K := K49, ν := N49, fuel := 60, lp := [] }


theorem f49_contract (N : Nat) (hΓ : CtxOk Try.prog HF) : Contract Try.prog 49 { sig := S49, impl := fun _ ds k => call (E49 N) S49 6 B49 R49 ds k } :=
  call_contract (E := E49 N) thOk hΓ mixed ok49.look ok49.body ok49.n ok49.rv ok49.name rfl (by decide) (loopsOk_of (l := []) (by kernel_rfl) trivial)
theorem f49_raw_eq {R : Type} (N : Nat) (x : List Int) (k : List DV → Option R) : call (E49 N) S49 6 B49 R49 [.v (.one (.ints .u8 32 x))] k = f49_raw N x k := by kernel_rfl
end Go.Proofs.Ytcgolglcjfknpaa

/- What rime/rimeref01.Abs comes to. MADE BY PROGRAM (wip/tools/mkfn.py, EngGen.lean). -/
namespace Go.Proofs.Ytcgolglcjfknpaa
open Go Go.Eng
set_option maxRecDepth 100000
set_option linter.unusedVariables false

noncomputable def f33_raw {R : Type} (N : Nat) (x : List Int) (k : List DV → Option R) : Option R :=
 bif okB x then bif vB x % 2 == 1 then bif okB x then k [DV.v (SV.one (At.ints IntKind.u8 32 (feN (subN 0 (vB x)))))] else Option.none else bif okB x then bif okD (refN (vB x)) then k [DV.v (SV.one (At.ints IntKind.u8 32 (feN (numD (refN (vB x))))))] else Option.none else Option.none else Option.none


noncomputable def E33 (N : Nat) : Env := { Θ := Th, Γ := HF, K := K33, ν := N33, fuel := 60, lp := [] }


theorem f33_contract (N : Nat) (hΓ : CtxOk Try.prog HF) : Contract Try.prog 33 { sig := S33, impl := fun _ ds k => call (E33 N) S33 10 B33 R33 ds k } :=
  call_contract (E := E33 N) thOk hΓ mixed ok33.look ok33.body ok33.n ok33.rv ok33.name rfl (by decide) (loopsOk_of (l := []) (by kernel_rfl) trivial)
theorem f33_raw_eq {R : Type} (N : Nat) (x : List Int) (k : List DV → Option R) : call (E33 N) S33 10 B33 R33 [.v (.one (.ints .u8 32 x))] k = f33_raw N x k := by kernel_rfl
end Go.Proofs.Ytcgolglcjfknpaa

/- What rime/rimeref01.D comes to. MADE BY PROGRAM (wip/tools/mkfn.py, EngGen.lean). -/
namespace Go.Proofs.Ytcgolglcjfknpaa
open Go Go.Eng
set_option maxRecDepth 100000
set_option linter.unusedVariables false

noncomputable def f38_raw {R : Type} (N : Nat)  (k : List DV → Option R) : Option R :=
 bif okB (feN (Int.toNat 121665)) then bif okB (feN (Int.toNat 121666)) then bif okB (feN (subN 0 (vB (feN (Int.toNat 121665))))) && okB (feN (pw (vB (feN (Int.toNat 121666))) pm2)) then k [DV.v (SV.one (At.ints IntKind.u8 32 (feN (mulN (vB (feN (subN 0 (vB (feN (Int.toNat 121665)))))) (vB (feN (pw (vB (feN (Int.toNat 121666))) pm2)))))))] else Option.none else Option.none else Option.none


noncomputable def E38 (N : Nat) : Env := { Θ := Th, Γ := HF, K := K38, ν := N38, fuel := 60, lp := [] }


theorem f38_contract (N : Nat) (hΓ : CtxOk Try.prog HF) : Contract Try.prog 38 { sig := S38, impl := fun _ ds k => call (E38 N) S38 6 B38 R38 ds k } :=
  call_contract (E := E38 N) thOk hΓ mixed ok38.look ok38.body ok38.n ok38.rv ok38.name rfl (by decide) (loopsOk_of (l := []) (by kernel_rfl) trivial)
theorem f38_raw_eq {R : Type} (N : Nat)  (k : List DV → Option R) : call (E38 N) S38 6 B38 R38 [] k = f38_raw N  k := by kernel_rfl
end Go.Proofs.Ytcgolglcjfknpaa

/- the document's functions, as numbers: Square, Double, Abs, D. -/
namespace Go.Proofs.Ytcgolglcjfknpaa
open Go Go.Eng
set_option maxRecDepth 100000
set_option linter.unusedSimpArgs false

theorem f51_num {R : Type} (x : List Int) (hx : (okB x) = true) (k : List DV → Option R) : f51_raw 0 x k = k [.v (.one (.ints .u8 32 (feN (mulN (vB x) (vB x)))))] := by
  unfold f51_raw
  try dsimp only
  simp only [hx, okD_refN, okB_feN, numD_ref (vB_lt _), Bool.and_self, cond_true]
noncomputable def I51 : (R : Type) → List DV → (List DV → Option R) → Option R := fun _ ds k => match ds with
  | [.v (.one (.ints .u8 32 x))] => bif okB x then k [.v (.one (.ints .u8 32 (feN (mulN (vB x) (vB x)))))] else none
  | _ => none
theorem c51 : Contract Try.prog 51 { sig := S51, impl := I51 } := by
  refine Contract.refine fun R ds k r h => ⟨_, f51_contract 0 HF_ok, ?_⟩
  unfold I51 at h
  split at h
  · rename_i x
    rcases hc : okB x with _ | _
    · rw [hc] at h; cases h
    · rw [hc, cond_true] at h
      rw [f51_raw_eq, f51_num x hc]; exact h
  · cases h

theorem f49_num {R : Type} (x : List Int) (hx : (okB x) = true) (k : List DV → Option R) : f49_raw 0 x k = k [.v (.one (.ints .u8 32 (feN (addN (vB x) (vB x)))))] := by
  unfold f49_raw
  try dsimp only
  simp only [hx, okD_refN, okB_feN, numD_ref (vB_lt _), Bool.and_self, cond_true]
noncomputable def I49 : (R : Type) → List DV → (List DV → Option R) → Option R := fun _ ds k => match ds with
  | [.v (.one (.ints .u8 32 x))] => bif okB x then k [.v (.one (.ints .u8 32 (feN (addN (vB x) (vB x)))))] else none
  | _ => none
theorem c49 : Contract Try.prog 49 { sig := S49, impl := I49 } := by
  refine Contract.refine fun R ds k r h => ⟨_, f49_contract 0 HF_ok, ?_⟩
  unfold I49 at h
  split at h
  · rename_i x
    rcases hc : okB x with _ | _
    · rw [hc] at h; cases h
    · rw [hc, cond_true] at h
      rw [f49_raw_eq, f49_num x hc]; exact h
  · cases h

theorem selA {R : Type} (c : Bool) (a b : Nat) (k : List DV → Option R) : (bif c then k [.v (.one (.ints .u8 32 (feN a)))] else k [.v (.one (.ints .u8 32 (feN b)))]) = k [.v (.one (.ints .u8 32 (feN (bif c then a else b))))] := by cases c <;> rfl

theorem f33_num {R : Type} (x : List Int) (hx : (okB x) = true) (k : List DV → Option R) : f33_raw 0 x k = k [.v (.one (.ints .u8 32 (feN (absN (vB x)))))] := by
  unfold f33_raw
  try dsimp only
  simp only [hx, okD_refN, okB_feN, numD_ref (vB_lt _), Bool.and_self, cond_true]
  rw [absN_def]
  exact selA _ _ _ k
noncomputable def I33 : (R : Type) → List DV → (List DV → Option R) → Option R := fun _ ds k => match ds with
  | [.v (.one (.ints .u8 32 x))] => bif okB x then k [.v (.one (.ints .u8 32 (feN (absN (vB x)))))] else none
  | _ => none
theorem c33 : Contract Try.prog 33 { sig := S33, impl := I33 } := by
  refine Contract.refine fun R ds k r h => ⟨_, f33_contract 0 HF_ok, ?_⟩
  unfold I33 at h
  split at h
  · rename_i x
    rcases hc : okB x with _ | _
    · rw [hc] at h; cases h
    · rw [hc, cond_true] at h
      rw [f33_raw_eq, f33_num x hc]; exact h
  · cases h

theorem f38_num {R : Type}   (k : List DV → Option R) : f38_raw 0  k = k [.v (.one (.ints .u8 32 (feN (dN))))] := by
  unfold f38_raw
  try dsimp only
  simp only [okB_feN, cond_true, Bool.and_self]
  rw [vB_feN (v := Int.toNat 121665) (by decide), vB_feN (v := Int.toNat 121666) (by decide), vB_feN (pw_lt _ _), vB_feN (subN_lt _ _)]
  rw [show mulN (subN 0 (Int.toNat 121665)) (pw (Int.toNat 121666) pm2) = dN by rw [subN_def, mulN_def, pw_pm]; decide +kernel]
noncomputable def I38 : (R : Type) → List DV → (List DV → Option R) → Option R := fun _ ds k => match ds with
  | [] => k [.v (.one (.ints .u8 32 (feN (dN))))]
  | _ => none
theorem c38 : Contract Try.prog 38 { sig := S38, impl := I38 } := by
  refine Contract.refine fun R ds k r h => ⟨_, f38_contract 0 HF_ok, ?_⟩
  unfold I38 at h
  split at h
  · rw [f38_raw_eq, f38_num]; exact h
  · cases h

noncomputable def HG : Ctx := (51, { sig := S51, impl := I51 }) :: (49, { sig := S49, impl := I49 }) :: (33, { sig := S33, impl := I33 }) :: (38, { sig := S38, impl := I38 }) :: HF
theorem HG_ok : CtxOk Try.prog HG := ctxOk_cons ok51 rfl c51 (ctxOk_cons ok49 rfl c49 (ctxOk_cons ok33 rfl c33 (ctxOk_cons ok38 rfl c38 HF_ok)))
end Go.Proofs.Ytcgolglcjfknpaa

/- What rime/rimeref01.SqrtM1 comes to. MADE BY PROGRAM (wip/tools/mkfn.py, EngGen.lean). -/
namespace Go.Proofs.Ytcgolglcjfknpaa
open Go Go.Eng
set_option maxRecDepth 100000
set_option linter.unusedVariables false

noncomputable def f40_raw {R : Type} (N : Nat)  (k : List DV → Option R) : Option R :=
 bif okB (feN (Int.toNat 2)) && okE exQuar then bif okB (feN (pw (vB (feN (Int.toNat 2))) (numB exQuar))) then k [DV.v (SV.one (At.ints IntKind.u8 32 (feN (absN (vB (feN (pw (vB (feN (Int.toNat 2))) (numB exQuar))))))))] else Option.none else Option.none


noncomputable def E40 (N : Nat) : Env := { Θ := Th, Γ := HG, K := K40, ν := N40, fuel := 0, lp := [] }


theorem f40_contract (N : Nat) (hΓ : CtxOk Try.prog HG) : Contract Try.prog 40 { sig := S40, impl := fun _ ds k => call (E40 N) S40 5 B40 R40 ds k } :=
  call_contract (E := E40 N) thOk hΓ mixed ok40.look ok40.body ok40.n ok40.rv ok40.name rfl (by decide) (loopsOk_of (l := []) (by kernel_rfl) trivial)
theorem f40_raw_eq {R : Type} (N : Nat)  (k : List DV → Option R) : call (E40 N) S40 5 B40 R40 [] k = f40_raw N  k := by kernel_rfl
end Go.Proofs.Ytcgolglcjfknpaa

/- the document's functions, as numbers: SqrtM1. -/
namespace Go.Proofs.Ytcgolglcjfknpaa
open Go Go.Eng
set_option maxRecDepth 100000
set_option linter.unusedSimpArgs false

theorem f40_num {R : Type}   (k : List DV → Option R) : f40_raw 0  k = k [.v (.one (.ints .u8 32 (feN (iN))))] := by
  unfold f40_raw
  simp only [okB_feN, okE_exQuar, num_exQuar, cond_true, Bool.and_self]
  rw [vB_feN (v := Int.toNat 2) (by decide), vB_feN (pw_lt _ _)]
  rw [show absN (pw (Int.toNat 2) 14474011154664524427946373126085988481658748083205070504932198000989141204987) = iN by rw [absN_def, subN_def, pw_pm]; decide +kernel]
noncomputable def I40 : (R : Type) → List DV → (List DV → Option R) → Option R := fun _ ds k => match ds with
  | [] => k [.v (.one (.ints .u8 32 (feN (iN))))]
  | _ => none
theorem c40 : Contract Try.prog 40 { sig := S40, impl := I40 } := by
  refine Contract.refine fun R ds k r h => ⟨_, f40_contract 0 HG_ok, ?_⟩
  unfold I40 at h
  split at h
  · rw [f40_raw_eq, f40_num]; exact h
  · cases h

noncomputable def HH : Ctx := (40, { sig := S40, impl := I40 }) :: HG
theorem HH_ok : CtxOk Try.prog HH := ctxOk_cons ok40 rfl c40 HG_ok
end Go.Proofs.Ytcgolglcjfknpaa

/- What rime/rimeref01.root comes to. MADE BY PROGRAM (wip/tools/mkfn.py, EngGen.lean). -/
namespace Go.Proofs.Ytcgolglcjfknpaa
open Go Go.Eng
set_option maxRecDepth 100000
set_option linter.unusedVariables false

noncomputable def f95_raw {R : Type} (N : Nat) (x : List Int) (k : List DV → Option R) : Option R :=
 bif okB x && okE exRoot then bif okB (feN (pw (vB x) (numB exRoot))) then bif okB x then bif okD (refN (vB x)) then bif !Decidable.decide (feN (mulN (vB (feN (pw (vB x) (numB exRoot)))) (vB (feN (pw (vB x) (numB exRoot))))) = feN (numD (refN (vB x)))) then bif okB (feN (pw (vB x) (numB exRoot))) && okB (feN iN) then bif okB (feN (mulN (vB (feN (pw (vB x) (numB exRoot)))) (vB (feN iN)))) then k [DV.v (SV.one (At.ints IntKind.u8 32 (feN (absN (vB (feN (mulN (vB (feN (pw (vB x) (numB exRoot)))) (vB (feN iN)))))))))] else Option.none else Option.none else bif okB (feN (pw (vB x) (numB exRoot))) then k [DV.v (SV.one (At.ints IntKind.u8 32 (feN (absN (vB (feN (pw (vB x) (numB exRoot))))))))] else Option.none else Option.none else Option.none else Option.none else Option.none


noncomputable def E95 (N : Nat) : Env := { Θ := Th, Γ := HH, K := K95, ν := N95, fuel := 0, lp := [] }


theorem f95_contract (N : Nat) (hΓ : CtxOk Try.prog HH) : Contract Try.prog 95 { sig := S95, impl := fun _ ds k => call (E95 N) S95 18 B95 R95 ds k } :=
  call_contract (E := E95 N) thOk hΓ mixed ok95.look ok95.body ok95.n ok95.rv ok95.name rfl (by decide) (loopsOk_of (l := []) (by kernel_rfl) trivial)
theorem f95_raw_eq {R : Type} (N : Nat) (x : List Int) (k : List DV → Option R) : call (E95 N) S95 18 B95 R95 [.v (.one (.ints .u8 32 x))] k = f95_raw N x k := by kernel_rfl
end Go.Proofs.Ytcgolglcjfknpaa

/- the document's root. -/
namespace Go.Proofs.Ytcgolglcjfknpaa
open Go Go.Eng
set_option maxRecDepth 100000
set_option linter.unusedSimpArgs false
noncomputable def rootS : Nat → Nat := (stk fun v => bif !decide (mulN (pw v 7237005577332262213973186563042994240829374041602535252466099000494570602494) (pw v 7237005577332262213973186563042994240829374041602535252466099000494570602494) = v) then absN (mulN (pw v 7237005577332262213973186563042994240829374041602535252466099000494570602494) iN) else absN (pw v 7237005577332262213973186563042994240829374041602535252466099000494570602494)).1
theorem rootS_def (v : Nat) : rootS v = bif !decide (mulN (pw v 7237005577332262213973186563042994240829374041602535252466099000494570602494) (pw v 7237005577332262213973186563042994240829374041602535252466099000494570602494) = v) then absN (mulN (pw v 7237005577332262213973186563042994240829374041602535252466099000494570602494) iN) else absN (pw v 7237005577332262213973186563042994240829374041602535252466099000494570602494) := congrFun (stk fun v => bif !decide (mulN (pw v 7237005577332262213973186563042994240829374041602535252466099000494570602494) (pw v 7237005577332262213973186563042994240829374041602535252466099000494570602494) = v) then absN (mulN (pw v 7237005577332262213973186563042994240829374041602535252466099000494570602494) iN) else absN (pw v 7237005577332262213973186563042994240829374041602535252466099000494570602494)).2 v
theorem rootS_lt (v : Nat) : rootS v < p25519 := by
  rw [rootS_def]; exact bif_lt _ (absN_lt (mulN_lt _ _)) (absN_lt (pw_lt _ _))
theorem rootS_even (v : Nat) : rootS v % 2 = 0 := by
  rw [rootS_def]
  cases decide (mulN (pw v 7237005577332262213973186563042994240829374041602535252466099000494570602494) (pw v 7237005577332262213973186563042994240829374041602535252466099000494570602494) = v)
  · exact absN_even (mulN_lt _ _)
  · exact absN_even (pw_lt _ _)
/-- of a square it is the root -/
theorem rootS_sq {w : Nat} (hw : w < p25519) (h : pw w ph = 1) : mulN (rootS w) (rootS w) = w := by
  rw [rootS_def]
  obtain ⟨e, he⟩ : ∃ e, e = 7237005577332262213973186563042994240829374041602535252466099000494570602494 := ⟨_, rfl⟩
  rw [← he]
  have hs : mulN (pw w e) (pw w e) = w ∨ mulN (pw w e) (pw w e) = mulN w (p25519 - 1) := by
    obtain ⟨q, hq⟩ : ∃ q, q = 14474011154664524427946373126085988481658748083205070504932198000989141204987 := ⟨_, rfl⟩
    have h1 : mulN (pw w e) (pw w e) = mulN w (pw w q) := by
      rw [mulN_def, mulN_def, pw_eq, pw_eq, ← Nat.mul_mod, ← Nat.pow_add, Nat.mul_mod_mod]
      rw [show e + e = q + 1 by rw [he, hq], Nat.pow_succ, Nat.mul_comm]
    rw [h1]
    have h2 : pw w q * pw w q % p25519 = 1 := by
      have h9 : q + q = ph := by rw [hq]; decide
      rw [← h, pw_eq, pw_eq, ← Nat.mul_mod, ← Nat.pow_add, h9]
    rcases sq_one prm_p (pw_lt _ _) h2 with h3 | h3
    · left; rw [h3, mulN_one hw]
    · right; rw [h3]
  by_cases h4 : mulN (pw w e) (pw w e) = w
  · rw [decide_eq_true h4]
    show mulN (absN (pw w e)) (absN (pw w e)) = w
    rw [absN_sq (pw_lt _ _), h4]
  · rw [decide_eq_false h4]
    show mulN (absN (mulN (pw w e) iN)) (absN (mulN (pw w e) iN)) = w
    rw [absN_sq (mulN_lt _ _)]
    rcases hs with h5 | h5
    · exact absurd h5 h4
    · have : mulN (mulN (pw w e) iN) (mulN (pw w e) iN) = mulN (mulN (pw w e) (pw w e)) (iN * iN % p25519) := by
        simp only [mulN_def, Nat.mod_mul_mod, Nat.mul_mod_mod]
        refine congrArg (· % p25519) ?_
        ac_rfl
      rw [this, i_sq, h5, mulN_assoc, show mulN (p25519 - 1) (p25519 - 1) = 1 by rw [mulN_def]; decide, mulN_one hw]
theorem even_root {a b : Nat} (ha : a < p25519) (hb : b < p25519) (ea : a % 2 = 0) (eb : b % 2 = 0) (h : mulN a a = mulN b b) : a = b := by
  rw [mulN_def, mulN_def] at h
  rcases sq_eq prm_p ha hb h with h | h
  · exact h
  · have : p25519 % 2 = 1 := by decide
    omega
theorem leg_i : legI iN = -1 := by
  refine leg_neg ?_
  rw [pw_pm]; decide +kernel
noncomputable def refQ (u v : Nat) : Nat := mulN u (pw v pm2)
theorem refQ_mul {u v : Nat} (hu : u < p25519) (hv : v < p25519) (h0 : v ≠ 0) : mulN (refQ u v) v = u := by
  unfold refQ
  rw [mulN_assoc, mulN_comm (pw v pm2) v, mulN_inv hv h0, mulN_one hu]
theorem leg_sq {v : Nat} (hv : v < p25519) (h0 : v ≠ 0) : legI (mulN v v) = 1 := by
  rw [leg_mul hv hv]
  rcases leg_cases hv with ⟨h, _⟩ | ⟨_, h⟩ | ⟨_, h⟩
  · exact absurd h h0
  · rw [h]; rfl
  · rw [h]; rfl
theorem leg_ratio {u v : Nat} (hu : u < p25519) (hv : v < p25519) (h0 : v ≠ 0) : legI (refQ u v) = legI (mulN u v) := by
  have h1 : mulN u v = mulN (refQ u v) (mulN v v) := by rw [← mulN_assoc, refQ_mul hu hv h0]
  rw [h1, leg_mul (show refQ u v < p25519 from mulN_lt _ _) (mulN_lt _ _), leg_sq hv h0, Int.mul_one]
theorem pw_of_leg {v : Nat} (hv : v < p25519) (h : legI v = 1) : pw v ph = 1 := by
  rcases leg_cases hv with ⟨_, h2⟩ | ⟨h1, _⟩ | ⟨_, h2⟩
  · rw [h2] at h; exact absurd h (by decide)
  · exact h1
  · rw [h2] at h; exact absurd h (by decide)
theorem mul_right_cancel {a b v : Nat} (ha : a < p25519) (hb : b < p25519) (hv : v < p25519) (h0 : v ≠ 0) (h : mulN a v = mulN b v) : a = b := by
  have : mulN (mulN a v) (pw v pm2) = mulN (mulN b v) (pw v pm2) := by rw [h]
  rwa [mulN_assoc, mulN_assoc, mulN_inv hv h0, mulN_one ha, mulN_one hb] at this
/-- the document's root of a ratio is the program's -/
theorem ref_rat {u v : Nat} (hu : u < p25519) (hv : v < p25519) (hu0 : u ≠ 0) (hv0 : v ≠ 0) :
    (legI (refQ u v) = 1 ∧ ratB u v = true ∧ rootS (refQ u v) = ratN u v) ∨ (legI (refQ u v) ≠ 1 ∧ ratB u v = false ∧ rootS (mulN (refQ u v) iN) = ratN u v) := by
  have hq : refQ u v < p25519 := mulN_lt _ _
  have hl := leg_ratio hu hv hv0
  rcases ratio hu hv hv0 with ⟨h1, h2, h3⟩ | ⟨h1, h2, h3⟩
  · left
    have h5 : legI (refQ u v) = 1 := by
      rcases leg_cases hq with ⟨h, _⟩ | ⟨_, h⟩ | ⟨_, h⟩
      · have := refQ_mul hu hv hv0
        rw [h, zero_mulN] at this
        exact absurd this.symm hu0
      · exact h
      · rw [← hl, h] at h3; exact absurd h3 (by decide)
    refine ⟨h5, h1, even_root (rootS_lt _) (ratN_lt v) (rootS_even _) (ratN_even v) ?_⟩
    rw [rootS_sq hq (pw_of_leg hq h5)]
    exact mul_right_cancel hq (mulN_lt _ _) hv hv0 (by rw [h2, refQ_mul hu hv hv0])
  · right
    have h5 : legI (refQ u v) = -1 := by rw [hl, h3]
    have h6 : mulN (refQ u v) iN < p25519 := mulN_lt _ _
    refine ⟨by rw [h5]; decide, h1, even_root (rootS_lt _) (ratN_lt v) (rootS_even _) (ratN_even v) ?_⟩
    rw [rootS_sq h6 (pw_of_leg h6 (by rw [leg_mul hq i_lt, h5, leg_i]; rfl))]
    refine mul_right_cancel h6 (mulN_lt _ _) hv hv0 ?_
    rw [h2, mulN_assoc, mulN_comm iN v, ← mulN_assoc, refQ_mul hu hv hv0, mulN_comm]

theorem f95_num {R : Type} (x : List Int) (hx : (okB x) = true) (k : List DV → Option R) : f95_raw 0 x k = k [.v (.one (.ints .u8 32 (feN (rootS (vB x)))))] := by
  unfold f95_raw
  simp only [hx, okD_refN, okB_feN, numD_ref (vB_lt _), vB_feN (pw_lt _ _), vB_feN (mulN_lt _ _), vB_feN i_lt, okE_exRoot, num_exRoot, Bool.and_self, cond_true]
  rw [dec_feN (mulN_lt _ _) (vB_lt _), rootS_def]
  exact selA _ _ _ k
noncomputable def I95 : (R : Type) → List DV → (List DV → Option R) → Option R := fun _ ds k => match ds with
  | [.v (.one (.ints .u8 32 x))] => bif okB x then k [.v (.one (.ints .u8 32 (feN (rootS (vB x)))))] else none
  | _ => none
theorem c95 : Contract Try.prog 95 { sig := S95, impl := I95 } := by
  refine Contract.refine fun R ds k r h => ⟨_, f95_contract 0 HH_ok, ?_⟩
  unfold I95 at h
  split at h
  · rename_i x
    rcases hc : okB x with _ | _
    · rw [hc] at h; cases h
    · rw [hc, cond_true] at h
      rw [f95_raw_eq, f95_num x hc]; exact h
  · cases h

noncomputable def HI : Ctx := (95, { sig := S95, impl := I95 }) :: HH
theorem HI_ok : CtxOk Try.prog HI := ctxOk_cons ok95 rfl c95 HH_ok
end Go.Proofs.Ytcgolglcjfknpaa

/- What rime/rimeref01.SqrtRatio comes to. MADE BY PROGRAM (wip/tools/mkfn.py, EngGen.lean). -/
namespace Go.Proofs.Ytcgolglcjfknpaa
open Go Go.Eng
set_option maxRecDepth 100000
set_option linter.unusedVariables false

noncomputable def f36_raw {R : Type} (N : Nat) (x : List Int) (y : List Int) (k : List DV → Option R) : Option R :=
 bif okB x then bif Decidable.decide (refN (vB x) = List.replicate 16 0) then k [DV.v (SV.one (At.ints IntKind.u8 32 (List.replicate 32 0))), DV.v (SV.one (At.bool Bool.true))] else bif okB y then bif Decidable.decide (refN (vB y) = List.replicate 16 0) then k [DV.v (SV.one (At.ints IntKind.u8 32 (List.replicate 32 0))), DV.v (SV.one (At.bool Bool.false))] else bif okB y then bif okB x && okB (feN (pw (vB y) pm2)) then bif okB (feN (mulN (vB x) (vB (feN (pw (vB y) pm2))))) then bif legI (vB (feN (mulN (vB x) (vB (feN (pw (vB y) pm2)))))) == 1 then bif okB (feN (mulN (vB x) (vB (feN (pw (vB y) pm2))))) then k [DV.v (SV.one (At.ints IntKind.u8 32 (feN (rootS (vB (feN (mulN (vB x) (vB (feN (pw (vB y) pm2)))))))))), DV.v (SV.one (At.bool Bool.true))] else Option.none else bif okB (feN (mulN (vB x) (vB (feN (pw (vB y) pm2))))) && okB (feN iN) then bif okB (feN (mulN (vB (feN (mulN (vB x) (vB (feN (pw (vB y) pm2)))))) (vB (feN iN)))) then k [DV.v (SV.one (At.ints IntKind.u8 32 (feN (rootS (vB (feN (mulN (vB (feN (mulN (vB x) (vB (feN (pw (vB y) pm2)))))) (vB (feN iN))))))))), DV.v (SV.one (At.bool Bool.false))] else Option.none else Option.none else Option.none else Option.none else Option.none else Option.none else Option.none


noncomputable def E36 (N : Nat) : Env := { Θ := Th, Γ := HI, K := K36, ν := N36, fuel := 0, lp := [] }


theorem f36_contract (N : Nat) (hΓ : CtxOk Try.prog HI) : Contract Try.prog 36 { sig := S36, impl := fun _ ds k => call (E36 N) S36 30 B36 R36 ds k } :=
  call_contract (E := E36 N) thOk hΓ mixed ok36.look ok36.body ok36.n ok36.rv ok36.name rfl (by decide) (loopsOk_of (l := []) (by kernel_rfl) trivial)
theorem f36_raw_eq {R : Type} (N : Nat) (x : List Int) (y : List Int) (k : List DV → Option R) : call (E36 N) S36 30 B36 R36 [.v (.one (.ints .u8 32 x)), .v (.one (.ints .u8 32 y))] k = f36_raw N x y k := by kernel_rfl
end Go.Proofs.Ytcgolglcjfknpaa

/- the document's root of a ratio. -/
namespace Go.Proofs.Ytcgolglcjfknpaa
open Go Go.Eng
set_option maxRecDepth 100000
set_option linter.unusedSimpArgs false

theorem f36_num {R : Type} (x : List Int) (y : List Int) (hx : (okB x) = true) (hy : (okB y) = true) (k : List DV → Option R) : f36_raw 0 x y k = k [.v (.one (.ints .u8 32 (feN (ratN (vB x) (vB y))))), .v (.one (.bool (ratB (vB x) (vB y))))] := by
  unfold f36_raw
  simp only [hx, hy, okD_refN, okB_feN, vB_feN (pw_lt _ _), vB_feN (mulN_lt _ _), vB_feN i_lt, Bool.and_self, cond_true]
  rw [ref_zero, ref_dec (vB_lt x) (by decide), ref_dec (vB_lt y) (by decide), zero_bytes]
  by_cases h0 : vB x = 0
  · rw [decide_eq_true h0, cond_true, h0]
    have hb : ratB 0 (vB y) = true := by
      have hc : chN 0 (vB y) = 0 := by rw [chN_eq, zero_mulN]
      rw [ratB_def, hc, decide_eq_true rfl, Bool.true_or]
    have hn : ratN 0 (vB y) = 0 := by
      have hr : rtN 0 (vB y) = 0 := by unfold rtN; rw [zero_mulN, zero_mulN]
      have hc : chN 0 (vB y) = 0 := by rw [chN_eq, zero_mulN]
      rw [ratN_def]; unfold ratR
      rw [hc, decide_eq_true rfl, cond_true, hr, absN_def]; decide
    rw [hb, hn]
  · rw [decide_eq_false h0, cond_false]
    by_cases h1 : vB y = 0
    · rw [decide_eq_true h1, cond_true, h1, ratN_v0, ratB_v0 (vB_lt x), decide_eq_false h0]
    · rw [decide_eq_false h1, cond_false]
      show (bif legI (refQ (vB x) (vB y)) == 1 then k [.v (.one (.ints .u8 32 (feN (rootS (refQ (vB x) (vB y)))))), .v (.one (.bool true))] else k [.v (.one (.ints .u8 32 (feN (rootS (mulN (refQ (vB x) (vB y)) iN))))), .v (.one (.bool false))]) = _
      rcases ref_rat (vB_lt x) (vB_lt y) h0 h1 with ⟨h2, h3, h4⟩ | ⟨h2, h3, h4⟩
      · rw [h2, h3, h4]; rfl
      · rw [show (legI (refQ (vB x) (vB y)) == 1) = false by rw [beq_eq_false_iff_ne]; exact h2, h3, h4]; rfl
noncomputable def I36 : (R : Type) → List DV → (List DV → Option R) → Option R := fun _ ds k => match ds with
  | [.v (.one (.ints .u8 32 x)), .v (.one (.ints .u8 32 y))] => bif okB x && okB y then k [.v (.one (.ints .u8 32 (feN (ratN (vB x) (vB y))))), .v (.one (.bool (ratB (vB x) (vB y))))] else none
  | _ => none
theorem c36 : Contract Try.prog 36 { sig := S36, impl := I36 } := by
  refine Contract.refine fun R ds k r h => ⟨_, f36_contract 0 HI_ok, ?_⟩
  unfold I36 at h
  split at h
  · rename_i x y
    rcases hc : okB x && okB y with _ | _
    · rw [hc] at h; cases h
    · rw [hc, cond_true] at h
      simp only [Bool.and_eq_true] at hc
      rw [f36_raw_eq, f36_num x y hc.1 hc.2]; exact h
  · cases h

noncomputable def HJ : Ctx := (36, { sig := S36, impl := I36 }) :: HI
theorem HJ_ok : CtxOk Try.prog HJ := ctxOk_cons ok36 rfl c36 HI_ok
end Go.Proofs.Ytcgolglcjfknpaa

/- What rime/field.Reduce comes to. MADE BY PROGRAM (wip/tools/mkfn.py, EngGen.lean). -/
namespace Go.Proofs.Ytcgolglcjfknpaa
open Go Go.Eng
set_option maxRecDepth 100000
set_option linter.unusedVariables false

def f63_0_sh : Shp := { n := 32, lo := 1, slots := [(0, .one (.fix (At.own 0))), (2, .one (.fix (At.ptr 2 0 Off.z 32))), (3, .one (.fix (At.ptr 3 0 Off.z 5))), (4, .one (.fix (At.ptr 4 0 Off.z 5))), (5, .one (.int IntKind.i64))], items := [(0, .view IntKind.u8 1), (2, .obj [.ints IntKind.u8 32]), (3, .obj [.ints IntKind.u64 5]), (4, .obj [.ints IntKind.u64 5])] }
def f63_0_ex1 : Shp := { n := 32, lo := 1, slots := [(15, .one (.bool)), (0, .one (.fix (At.own 0))), (2, .one (.fix (At.ptr 2 0 Off.z 32))), (3, .one (.fix (At.ptr 3 0 Off.z 5))), (4, .one (.fix (At.ptr 4 0 Off.z 5))), (5, .one (.int IntKind.i64))], items := [(0, .view IntKind.u8 1), (2, .obj [.ints IntKind.u8 32]), (3, .obj [.ints IntKind.u64 5]), (4, .obj [.ints IntKind.u64 5])] }
noncomputable def f63_0_st {R : Type} (N : Nat) (self : Int → List Int → List Int → List Int → List Int → Option R) (k1 : Bool → Int → List Int → List Int → List Int → List Int → Option R) (x1 : Int) (x2 : List Int) (x3 : List Int) (x4 : List Int) (x5 : List Int) : Option R :=
 bif Decidable.decide (x1 > 0) then
 let v0 : Int := IntKind.i64.wrap (x1 - 32);
 bif loOk (Option.some v0) (hiInt Option.none (rowLen 1 x2)) then
 let v1 : List Int := Go.Eng.sub x2 (plusO Off.z 1 (Option.some v0)) (mulE (Go.Eng.subN (hiNat Option.none (rowLen 1 x2)) (Option.some v0)) 1);
 let v2 : Nat := Min.min (rowLen 1 v1) (Go.Eng.subN (hiNat Option.none 32) Option.none);
 let v3 : List Int := splice (List.replicate 32 0) (plusO Off.z 1 Option.none) (List.take (mulE v2 1) v1);
 self v0 x2 x3 (plusL (timesL x4 x5) (loadL v3)) x5
 else Option.none
else k1 (Decidable.decide (x1 > 0)) x1 x2 x3 x4 x5
noncomputable def f63_0_lp {R : Type} (N : Nat) (k1 : Bool → Int → List Int → List Int → List Int → List Int → Option R) : Nat → Int → List Int → List Int → List Int → List Int → Option R
 | 0, _, _, _, _, _ => none
 | n + 1, x1, x2, x3, x4, x5 => f63_0_st N (f63_0_lp N k1 n) k1 x1 x2 x3 x4 x5
noncomputable def f63_0_F (N : Nat) : (R : Type) → List Leaf → (X → AS → Option R) → Option R := fun _ ls K => match ls with
 | [.i x1, .l x2, .l x3, .l x4, .l x5] => f63_0_lp N (fun y1 y2 y3 y4 y5 y6 => K (X.normal) (fill f63_0_ex1 [.b y1, .i y2, .l y3, .l y4, .l y5, .l y6])) N x1 x2 x3 x4 x5
 | _ => none
noncomputable def f63_raw {R : Type} (N : Nat) (e : List Int) (k : List DV → Option R) : Option R :=
 let v0 : Int := IntKind.i64.wrap (nI (rowLen 1 e) + 31);
let v1 : Int := IntKind.i64.wrap (v0.tdiv 32);
let v2 : Int := IntKind.i64.wrap (v1 * 32);
let v3 : List Int := (List.replicate 5 0).set 0 38;
f63_0_lp N (fun w4_1 w4_2 w4_3 w4_4 w4_5 w4_6 => k [DV.v (SV.one (At.ints IntKind.u8 32 (feL w4_5)))]) N v2 e (List.replicate 32 0) (List.replicate 5 0) v3


noncomputable def E63 (N : Nat) : Env := { Θ := Th, Γ := GJ, K := K63, ν := N63, fuel := 0, lp := [(0, mkL N63_0 f63_0_sh (f63_0_F N))] }

theorem f63_0_st_eq {R : Type} (N : Nat) (K : X → AS → Option R) (n : Nat) (x1 : Int) (x2 : List Int) (x3 : List Int) (x4 : List Int) (x5 : List Int) : roundsOf (E63 N) N63_0 0 B63_0 K (n + 1) (fill f63_0_sh [.i x1, .l x2, .l x3, .l x4, .l x5]) = f63_0_st N (fun x1 x2 x3 x4 x5 => roundsOf (E63 N) N63_0 0 B63_0 K n (fill f63_0_sh [.i x1, .l x2, .l x3, .l x4, .l x5])) (fun y1 y2 y3 y4 y5 y6 => K (X.normal) (fill f63_0_ex1 [.b y1, .i y2, .l y3, .l y4, .l y5, .l y6])) x1 x2 x3 x4 x5 := by kernel_rfl
theorem f63_0_lp_eq {R : Type} (N : Nat) (K : X → AS → Option R) : ∀ (n : Nat) (x1 : Int) (x2 : List Int) (x3 : List Int) (x4 : List Int) (x5 : List Int), roundsOf (E63 N) N63_0 0 B63_0 K n (fill f63_0_sh [.i x1, .l x2, .l x3, .l x4, .l x5]) = f63_0_lp N (fun y1 y2 y3 y4 y5 y6 => K (X.normal) (fill f63_0_ex1 [.b y1, .i y2, .l y3, .l y4, .l y5, .l y6])) n x1 x2 x3 x4 x5
  | 0, _, _, _, _, _ => rfl
  | n + 1, x1, x2, x3, x4, x5 => by
    rw [f63_0_st_eq, f63_0_lp, show (fun x1 x2 x3 x4 x5 => roundsOf (E63 N) N63_0 0 B63_0 K n (fill f63_0_sh [.i x1, .l x2, .l x3, .l x4, .l x5])) = f63_0_lp N (fun y1 y2 y3 y4 y5 y6 => K (X.normal) (fill f63_0_ex1 [.b y1, .i y2, .l y3, .l y4, .l y5, .l y6])) n from by funext x1 x2 x3 x4 x5; exact f63_0_lp_eq N K n x1 x2 x3 x4 x5]
theorem f63_0_ok (N : Nat) (hlp : LoopsOk Try.prog (E63 N).lp B63_0) (hΓ : CtxOk Try.prog (E63 N).Γ) : LoopOk Try.prog (mkL N63_0 f63_0_sh (f63_0_F N)) 0 B63_0 := by
  refine loopOk_of (E := E63 N) thOk hΓ mixed hlp ?_
  intro R ls K r h
  unfold f63_0_F at h
  split at h
  · exact ⟨N, by rw [f63_0_lp_eq]; exact h⟩
  · cases h

theorem lok63_0 (N : Nat) (hΓ : CtxOk Try.prog GJ) : LoopOk Try.prog (mkL N63_0 f63_0_sh (f63_0_F N)) 0 B63_0 := f63_0_ok N (loopsOk_of (l := []) (by kernel_rfl) trivial) hΓ
theorem f63_contract (N : Nat) (hΓ : CtxOk Try.prog GJ) : Contract Try.prog 63 { sig := S63, impl := fun _ ds k => call (E63 N) S63 32 B63 R63 ds k } :=
  call_contract (E := E63 N) thOk hΓ mixed ok63.look ok63.body ok63.n ok63.rv ok63.name rfl (by decide) (loopsOk_of (l := [(0, B63_0)]) (by kernel_rfl) (allOk_cons (L := mkL N63_0 f63_0_sh (f63_0_F N)) rfl (lok63_0 N hΓ) trivial))
theorem f63_raw_eq {R : Type} (N : Nat) (e : List Int) (k : List DV → Option R) : call (E63 N) S63 32 B63 R63 [.lst .u8 1 e] k = f63_raw N e k := by kernel_rfl
end Go.Proofs.Ytcgolglcjfknpaa

/- What rime/field.Decode comes to. MADE BY PROGRAM (wip/tools/mkfn.py, EngGen.lean). -/
namespace Go.Proofs.Ytcgolglcjfknpaa
open Go Go.Eng
set_option maxRecDepth 100000
set_option linter.unusedVariables false

noncomputable def f64_raw {R : Type} (N : Nat) (e : List Int) (k : List DV → Option R) : Option R :=
 bif nI (rowLen 1 e) != 32 then k [DV.v (SV.one (At.ints IntKind.u8 32 (List.replicate 32 0))), DV.v (SV.one (At.int IntKind.i64 3))] else bif Nat.ble 1 32 && Nat.ble 32 (rowLen 1 e) then bif okB (List.take 32 (List.drop 0 e)) then bif Decidable.decide (numB (List.take 32 (List.drop 0 e)) < p25519) then k [DV.v (SV.one (At.ints IntKind.u8 32 (List.take 32 (List.drop 0 e)))), DV.v (SV.one (At.int IntKind.i64 0))] else k [DV.v (SV.one (At.ints IntKind.u8 32 (List.replicate 32 0))), DV.v (SV.one (At.int IntKind.i64 11))] else Option.none else Option.none


noncomputable def E64 (N : Nat) : Env := { Θ := Th, Γ := GJ, K := K64, ν := N64, fuel := 0, lp := [] }


theorem f64_contract (N : Nat) (hΓ : CtxOk Try.prog GJ) : Contract Try.prog 64 { sig := S64, impl := fun _ ds k => call (E64 N) S64 16 B64 R64 ds k } :=
  call_contract (E := E64 N) thOk hΓ mixed ok64.look ok64.body ok64.n ok64.rv ok64.name rfl (by decide) (loopsOk_of (l := []) (by kernel_rfl) trivial)
theorem f64_raw_eq {R : Type} (N : Nat) (e : List Int) (k : List DV → Option R) : call (E64 N) S64 16 B64 R64 [.lst .u8 1 e] k = f64_raw N e k := by kernel_rfl
end Go.Proofs.Ytcgolglcjfknpaa

/- What rime/rimelaw01.num comes to. MADE BY PROGRAM (wip/tools/mkfn.py, EngGen.lean). -/
namespace Go.Proofs.Ytcgolglcjfknpaa
open Go Go.Eng
set_option maxRecDepth 100000
set_option linter.unusedVariables false

noncomputable def f65_raw {R : Type} (N : Nat) (x : Int) (k : List DV → Option R) : Option R :=
 k [DV.v (SV.one (At.int IntKind.i64 x))]


noncomputable def E65 (N : Nat) : Env := { Θ := Th, Γ := GJ, K := K65, ν := N65, fuel := 0, lp := [] }


theorem f65_contract (N : Nat) (hΓ : CtxOk Try.prog GJ) : Contract Try.prog 65 { sig := S65, impl := fun _ ds k => call (E65 N) S65 4 B65 R65 ds k } :=
  call_contract (E := E65 N) thOk hΓ mixed ok65.look ok65.body ok65.n ok65.rv ok65.name rfl (by decide) (loopsOk_of (l := []) (by kernel_rfl) trivial)
theorem f65_raw_eq {R : Type} (N : Nat) (x : Int) (k : List DV → Option R) : call (E65 N) S65 4 B65 R65 [.v (.one (.int .i64 x))] k = f65_raw N x k := by kernel_rfl
end Go.Proofs.Ytcgolglcjfknpaa

/- The numbers p, p - 1, (p - 1) / 2 as bytes, as the laws make them. -/
namespace Go.Proofs.Ytcgolglcjfknpaa
open Go Go.Eng
set_option maxRecDepth 100000
set_option linter.unusedVariables false
noncomputable def E20 (N : Nat) : Env := { Θ := Th, Γ := [], K := K20, ν := N20, fuel := 60, lp := [] }
theorem f20_contract (N : Nat) : Contract Try.prog 20 { sig := S20, impl := fun _ ds k => call (E20 N) S20 20 B20 R20 ds k } :=
  call_contract (E := E20 N) thOk ctxOk_nil mixed ok20.look ok20.body ok20.n ok20.rv ok20.name rfl (by decide) (loopsOk_of (l := [(0, B20_0)]) (by kernel_rfl) (allOk_skip rfl trivial))
noncomputable def E19 (N : Nat) : Env := { Θ := Th, Γ := [], K := K19, ν := N19, fuel := 60, lp := [] }
theorem f19_contract (N : Nat) : Contract Try.prog 19 { sig := S19, impl := fun _ ds k => call (E19 N) S19 42 B19 R19 ds k } :=
  call_contract (E := E19 N) thOk ctxOk_nil mixed ok19.look ok19.body ok19.n ok19.rv ok19.name rfl (by decide) (loopsOk_of (l := [(0, B19_0)]) (by kernel_rfl) (allOk_skip rfl trivial))
def prmL0 : List Int := [237, 255, 255, 255, 255, 255, 255, 255, 255, 255, 255, 255, 255, 255, 255, 255, 255, 255, 255, 255, 255, 255, 255, 255, 255, 255, 255, 255, 255, 255, 255, 127]
def prmL1 : List Int := [236, 255, 255, 255, 255, 255, 255, 255, 255, 255, 255, 255, 255, 255, 255, 255, 255, 255, 255, 255, 255, 255, 255, 255, 255, 255, 255, 255, 255, 255, 255, 127]
def halfL : List Int := [246, 255, 255, 255, 255, 255, 255, 255, 255, 255, 255, 255, 255, 255, 255, 255, 255, 255, 255, 255, 255, 255, 255, 255, 255, 255, 255, 255, 255, 255, 255, 63]

theorem f20_0 {R : Type} (k : List DV → Option R) : call (E20 0) S20 20 B20 R20 [.v (.one (.int .u8 0))] k = k [.lst .u8 1 prmL0] := by kernel_rfl
theorem f20_1 {R : Type} (k : List DV → Option R) : call (E20 0) S20 20 B20 R20 [.v (.one (.int .u8 1))] k = k [.lst .u8 1 prmL1] := by kernel_rfl
theorem f19_1 {R : Type} (k : List DV → Option R) : call (E19 0) S19 42 B19 R19 [.lst .u8 1 prmL1] k = k [.lst .u8 1 halfL] := by kernel_rfl
noncomputable def I20 : (R : Type) → List DV → (List DV → Option R) → Option R := fun _ ds k => match ds with
  | [.v (.one (.int .u8 x))] => bif decide (x = 0) then k [.lst .u8 1 prmL0] else bif decide (x = 1) then k [.lst .u8 1 prmL1] else none
  | _ => none
theorem c20 : Contract Try.prog 20 { sig := S20, impl := I20 } := by
  refine Contract.refine fun R ds k r h => ⟨_, f20_contract 0, ?_⟩
  unfold I20 at h
  split at h
  · rename_i x
    rcases hc : decide (x = 0) with _ | _
    · rw [hc, cond_false] at h
      rcases hd : decide (x = 1) with _ | _
      · rw [hd] at h; cases h
      · rw [hd, cond_true] at h
        rw [decide_eq_true_eq] at hd
        subst hd; rw [f20_1]; exact h
    · rw [hc, cond_true] at h
      rw [decide_eq_true_eq] at hc
      subst hc; rw [f20_0]; exact h
  · cases h
noncomputable def I19 : (R : Type) → List DV → (List DV → Option R) → Option R := fun _ ds k => match ds with
  | [.lst .u8 1 e] => bif decide (e = prmL1) then k [.lst .u8 1 halfL] else none
  | _ => none
theorem c19 : Contract Try.prog 19 { sig := S19, impl := I19 } := by
  refine Contract.refine fun R ds k r h => ⟨_, f19_contract 0, ?_⟩
  unfold I19 at h
  split at h
  · rename_i e
    rcases hc : decide (e = prmL1) with _ | _
    · rw [hc] at h; cases h
    · rw [hc, cond_true] at h
      rw [decide_eq_true_eq] at hc
      subst hc; rw [f19_1]; exact h
  · cases h
theorem GL_ok' : CtxOk Try.prog ((19, { sig := S19, impl := I19 }) :: (20, { sig := S20, impl := I20 }) :: GJ) := ctxOk_cons ok19 rfl c19 (ctxOk_cons ok20 rfl c20 GJ_ok)
noncomputable def GL : Ctx := (999999, noFI) :: (19, { sig := S19, impl := I19 }) :: (20, { sig := S20, impl := I20 }) :: GJ
theorem GL_ok : CtxOk Try.prog GL := ctxOk_prune GL_ok'
theorem okE_prm0 : okE prmL0 = true := by decide
theorem okE_half : okE halfL = true := by decide
theorem num_prm0 : numB prmL0 = p25519 := by decide
theorem num_half : numB halfL = ph := by decide
end Go.Proofs.Ytcgolglcjfknpaa

/- Reduce, Decode, as numbers. -/
namespace Go.Proofs.Ytcgolglcjfknpaa
open Go Go.Eng
set_option maxRecDepth 100000
set_option linter.unusedVariables false

/-- block m of 32 bytes, filled up -/
def blkU (e : List Int) (m : Nat) : List Int := ((e.drop (32 * m)).take (e.length - 32 * m)).take (min ((e.drop (32 * m)).take (e.length - 32 * m)).length 32)
def blkE (e : List Int) (m : Nat) : List Int := blkU e m ++ (List.replicate 32 0).drop (blkU e m).length
def redL (e : List Int) : Nat → List Int → List Int
  | 0, r => r
  | m + 1, r => redL e m (plusL (timesL r [38, 0, 0, 0, 0]) (loadL (blkE e m)))
noncomputable def redV (e : List Int) : Nat → Nat → Nat
  | 0, v => v
  | m + 1, v => redV e m (addN (mulN v 38) (vB (blkE e m)))
def blocks (e : List Int) : Nat := if e.length + 31 < 9223372036854775808 then (e.length + 31) / 32 else 0

theorem f63_in {R : Type} (N : Nat) (k1 : Bool → Int → List Int → List Int → List Int → List Int → Option R) (e z : List Int) :
    ∀ m : Nat, 32 * m ≤ e.length + 31 → 32 * m < 9223372036854775808 → ∀ fuel, m < fuel → ∀ r, f63_0_lp N k1 fuel ((32 * m : Nat) : Int) e z r [38, 0, 0, 0, 0] = k1 false 0 e z (redL e m r) [38, 0, 0, 0, 0] := by
  intro m
  induction m with
  | zero =>
    intro _ _ fuel hf r
    obtain ⟨f, rfl⟩ : ∃ f, fuel = f + 1 := ⟨fuel - 1, by omega⟩
    rfl
  | succ m ih =>
    intro hm hs fuel hf r
    obtain ⟨f, rfl⟩ : ∃ f, fuel = f + 1 := ⟨fuel - 1, by omega⟩
    show f63_0_st N (f63_0_lp N k1 f) k1 _ _ _ _ _ = _
    unfold f63_0_st
    rw [show decide (((32 * (m + 1) : Nat) : Int) > 0) = true from decide_eq_true (by omega), cond_true]
    rw [show IntKind.i64.wrap (((32 * (m + 1) : Nat) : Int) - 32) = ((32 * m : Nat) : Int) by rw [wrapI (by omega) (by omega)]; omega]
    dsimp only
    rw [show loOk (some ((32 * m : Nat) : Int)) (hiInt none (rowLen 1 e)) = true by
      show (decide (0 ≤ ((32 * m : Nat) : Int)) && decide (((32 * m : Nat) : Int) ≤ (e.length : Int))) = true
      rw [decide_eq_true (by omega), decide_eq_true (by omega)]; rfl, cond_true]
    exact ih (by omega) (by omega) f (by omega) _

theorem f63_spec {R : Type} (N : Nat) (e : List Int) (hN : e.length + 1 < N) (he : e.length < 9223372036854775808) (k : List DV → Option R) : f63_raw N e k = k [.v (.one (.ints .u8 32 (feL (redL e (blocks e) [0, 0, 0, 0, 0]))))] := by
  unfold f63_raw
  dsimp only
  rw [show nI (rowLen 1 e) = (e.length : Int) from rfl, show (List.replicate 5 (0 : Int)).set 0 38 = [38, 0, 0, 0, 0] from rfl]
  unfold blocks
  by_cases h : e.length + 31 < 9223372036854775808
  · rw [if_pos h, wrapI (a := (e.length : Int) + 31) (by omega) (by omega)]
    rw [show ((e.length : Int) + 31).tdiv 32 = (((e.length + 31) / 32 : Nat) : Int) from rfl]
    rw [wrapI (a := (((e.length + 31) / 32 : Nat) : Int)) (by omega) (by omega), wrapI (by omega) (by omega)]
    rw [show (((e.length + 31) / 32 : Nat) : Int) * 32 = ((32 * ((e.length + 31) / 32) : Nat) : Int) by omega]
    rw [f63_in N _ e _ ((e.length + 31) / 32) (by omega) (by omega) N (by omega)]
    rfl
  · rw [if_neg h]
    rw [show IntKind.i64.wrap ((e.length : Int) + 31) = -((18446744073709551616 - 31 - e.length : Nat) : Int) by simp [IntKind.wrap, IntKind.bits, IntKind.signed]; omega]
    rw [Int.neg_tdiv, show (((18446744073709551616 - 31 - e.length : Nat) : Int)).tdiv 32 = (((18446744073709551616 - 31 - e.length) / 32 : Nat) : Int) from rfl]
    rw [wrapI (a := -(((18446744073709551616 - 31 - e.length) / 32 : Nat) : Int)) (by omega) (by omega), wrapI (by omega) (by omega)]
    obtain ⟨f, rfl⟩ : ∃ f, N = f + 1 := ⟨N - 1, by omega⟩
    show f63_0_st _ (f63_0_lp _ _ f) _ _ _ _ _ _ = _
    unfold f63_0_st
    rw [show decide (-(((18446744073709551616 - 31 - e.length) / 32 : Nat) : Int) * 32 > 0) = false from decide_eq_false (by omega), cond_false]
    rfl

theorem blkU_mem {e : List Int} {m : Nat} {b : Int} (h : b ∈ blkU e m) : b ∈ e := List.mem_of_mem_drop (List.mem_of_mem_take (List.mem_of_mem_take h))
theorem okE_mem {e : List Int} (h : okE e = true) : ∀ b ∈ e, 0 ≤ b ∧ b < 256 := by
  obtain ⟨_, l, rfl, hl⟩ := okE_of h
  intro b hb
  obtain ⟨n, hn, rfl⟩ := List.mem_map.mp hb
  have := hl n hn
  exact ⟨Int.natCast_nonneg n, Int.ofNat_lt.mpr this⟩
theorem okB_mem {x : List Int} (hl : x.length = 32) (h : ∀ b ∈ x, 0 ≤ b ∧ b < 256) : okB x = true := by
  unfold okB
  rw [decide_eq_true hl, Bool.true_and, List.all_eq_true]
  intro b hb
  rw [Bool.and_eq_true]
  exact ⟨decide_eq_true (h b hb).1, decide_eq_true (h b hb).2⟩
theorem blk_ok {e : List Int} (h : okE e = true) (m : Nat) : okB (blkE e m) = true := by
  refine okB_mem ?_ fun b hb => ?_
  · have : (blkU e m).length ≤ 32 := by
      unfold blkU; rw [List.length_take]; omega
    unfold blkE
    rw [List.length_append, List.length_drop, List.length_replicate]; omega
  · rcases List.mem_append.1 hb with hb | hb
    · exact okE_mem h b (blkU_mem hb)
    · rw [List.eq_of_mem_replicate (List.mem_of_mem_drop hb)]; decide
theorem el38 : El [38, 0, 0, 0, 0] 38 := ⟨38, 0, 0, 0, 0, rfl, ⟨by decide, by decide, by decide, by decide, by decide⟩, by decide⟩
theorem red_el {e : List Int} (h : okE e = true) : ∀ (m : Nat) {r : List Int} {v : Nat}, El r v → El (redL e m r) (redV e m v)
  | 0, _, _, hr => hr
  | m + 1, _, _, hr => red_el h m (plus_N (times_N hr el38) (load_vB (blk_ok h m)))
noncomputable def redN : List Int → Nat := (stk fun e => redV e (blocks e) 0).1
theorem redN_def (e : List Int) : redN e = redV e (blocks e) 0 := congrFun (stk fun e => redV e (blocks e) 0).2 e
theorem redN_el {e : List Int} (h : okE e = true) : El (redL e (blocks e) [0, 0, 0, 0, 0]) (redN e) := by rw [redN_def]; exact red_el h _ zero_el
theorem redN_lt {e : List Int} (h : okE e = true) : redN e < p25519 := (redN_el h).lt
theorem zero_addN {a : Nat} (h : a < p25519) : addN 0 a = a := by rw [addN_def, Nat.zero_add, Nat.mod_eq_of_lt h]
/-- of 32 bytes it is their number -/
theorem redN_32 {e : List Int} (h : okB e = true) : redN e = vB e := by
  have hl : e.length = 32 := by obtain ⟨l, rfl, h, _⟩ := okB_of h; rw [nats_length]; exact h
  rw [redN_def]
  have hb : blocks e = 1 := by unfold blocks; rw [hl]; rfl
  have hk : blkE e 0 = e := by
    have : blkU e 0 = e := by
      unfold blkU
      rw [List.drop_zero, Nat.mul_zero, Nat.sub_zero, List.take_length, hl, List.take_of_length_le (by omega)]
    unfold blkE
    rw [this, hl]
    show e ++ [] = e
    rw [List.append_nil]
  rw [hb]
  show addN (mulN 0 38) (vB (blkE e 0)) = _
  rw [zero_mulN, hk, zero_addN (vB_lt e)]

theorem f63_num {R : Type} (N : Nat) (e : List Int) (he : okE e = true) (hN : e.length + 1 < N) (k : List DV → Option R) : f63_raw N e k = k [.v (.one (.ints .u8 32 (feN (redN e))))] := by
  rw [f63_spec N e hN (okE_of he).1, fe_num (redN_el he)]
noncomputable def I63 : (R : Type) → List DV → (List DV → Option R) → Option R := fun _ ds k => match ds with
  | [.lst .u8 1 e] => bif okE e then k [.v (.one (.ints .u8 32 (feN (redN e))))] else none
  | _ => none
theorem c63 : Contract Try.prog 63 { sig := S63, impl := I63 } := by
  refine Contract.refine fun R ds k r h => ?_
  unfold I63 at h
  split at h
  · rename_i e
    rcases hc : okE e with _ | _
    · rw [hc] at h; cases h
    · rw [hc, cond_true] at h
      refine ⟨_, f63_contract (e.length + 2) GJ_ok, ?_⟩
      rw [f63_raw_eq, f63_num _ e hc (by omega)]; exact h
  · cases h

/-- what Decode answers: bytes, error -/
noncomputable def decB : List Int → List Int := (stk fun e => bif e.length == 32 && decide (numB e < p25519) then e else List.replicate 32 0).1
theorem decB_def (e : List Int) : decB e = bif e.length == 32 && decide (numB e < p25519) then e else List.replicate 32 0 := congrFun (stk fun e : List Int => bif e.length == 32 && decide (numB e < p25519) then e else List.replicate 32 0).2 e
noncomputable def decE : List Int → Int := (stk fun e => bif e.length == 32 then bif decide (numB e < p25519) then 0 else 11 else 3).1
theorem decE_def (e : List Int) : decE e = bif e.length == 32 then bif decide (numB e < p25519) then 0 else 11 else 3 := congrFun (stk fun e : List Int => bif e.length == 32 then bif decide (numB e < p25519) then (0 : Int) else 11 else 3).2 e
theorem f64_num {R : Type} (e : List Int) (he : okE e = true) (k : List DV → Option R) : f64_raw 0 e k = k [.v (.one (.ints .u8 32 (decB e))), .v (.one (.int .i64 (decE e)))] := by
  unfold f64_raw
  rw [show nI (rowLen 1 e) = (e.length : Int) from rfl, decB_def, decE_def]
  by_cases h : e.length = 32
  · rw [show rowLen 1 e = 32 from h, List.drop_zero, List.take_of_length_le (Nat.le_of_eq h), h]
    rw [okB_mem h (okE_mem he)]
    cases decide (numB e < p25519) <;> rfl
  · rw [show ((e.length : Int) != 32) = true by rw [bne_iff_ne]; omega, cond_true, show (e.length == 32) = false by rw [beq_eq_false_iff_ne]; exact h]
    rfl
noncomputable def I64 : (R : Type) → List DV → (List DV → Option R) → Option R := fun _ ds k => match ds with
  | [.lst .u8 1 e] => bif okE e then k [.v (.one (.ints .u8 32 (decB e))), .v (.one (.int .i64 (decE e)))] else none
  | _ => none
theorem c64 : Contract Try.prog 64 { sig := S64, impl := I64 } := by
  refine Contract.refine fun R ds k r h => ⟨_, f64_contract 0 GJ_ok, ?_⟩
  unfold I64 at h
  split at h
  · rename_i e
    rcases hc : okE e with _ | _
    · rw [hc] at h; cases h
    · rw [hc, cond_true] at h
      rw [f64_raw_eq, f64_num e hc]; exact h
  · cases h
noncomputable def I65 : (R : Type) → List DV → (List DV → Option R) → Option R := fun _ ds k => match ds with
  | [.v (.one (.int .i64 x))] => k [.v (.one (.int .i64 x))]
  | _ => none
theorem c65 : Contract Try.prog 65 { sig := S65, impl := I65 } := by
  refine Contract.refine fun R ds k r h => ⟨_, f65_contract 0 GJ_ok, ?_⟩
  unfold I65 at h
  split at h
  · rw [f65_raw_eq]; exact h
  · cases h
/-- the limbs of a number, as something that no reckoning looks into -/
noncomputable def limS : Nat → List Int := (stk limN).1
theorem limS_def (v : Nat) : limS v = limN v := congrFun (stk limN).2 v
noncomputable def I13s : (R : Type) → List DV → (List DV → Option R) → Option R := fun _ ds k => match ds with
  | [.v (.one (.ints .u8 32 x))] => bif okB x then k [.v (.one (.ints .u64 5 (limS (vB x))))] else none
  | _ => none
theorem c13s : Contract Try.prog 13 { sig := S13, impl := I13s } := by
  refine Contract.refine fun R ds k r h => ⟨_, c13, ?_⟩
  unfold I13s at h
  split at h
  · rw [limS_def] at h; exact h
  · cases h
noncomputable def GM' : Ctx := (13, { sig := S13, impl := I13s }) :: (63, { sig := S63, impl := I63 }) :: (64, { sig := S64, impl := I64 }) :: (65, { sig := S65, impl := I65 }) :: GJ
theorem GM_ok' : CtxOk Try.prog GM' := ctxOk_cons ok13 rfl c13s (ctxOk_cons ok63 rfl c63 (ctxOk_cons ok64 rfl c64 (ctxOk_cons ok65 rfl c65 GJ_ok)))
noncomputable def GM : Ctx := (999999, noFI) :: GM'
theorem GM_ok : CtxOk Try.prog GM := ctxOk_prune GM_ok'
def startB (n : Nat) (x y z : List Int) : AS :=
  { n := n, lo := 0, tmps := [(0, .s (.one (.ints .u8 32 x))), (1, .s (.one (.ints .u64 5 y))), (2, .s (.one (.own 2)))], items := [(2, .view .u8 1 z)] }
end Go.Proofs.Ytcgolglcjfknpaa

/- the program's and the document's functions together. -/
namespace Go.Proofs.Ytcgolglcjfknpaa
open Go Go.Eng
set_option maxRecDepth 100000

noncomputable def GP0 : Ctx := (36, { sig := S36, impl := I36 }) :: (95, { sig := S95, impl := I95 }) :: (40, { sig := S40, impl := I40 }) :: (51, { sig := S51, impl := I51 }) :: (49, { sig := S49, impl := I49 }) :: (33, { sig := S33, impl := I33 }) :: (38, { sig := S38, impl := I38 }) :: (44, { sig := S44, impl := I44 }) :: (46, { sig := S46, impl := I46 }) :: (47, { sig := S47, impl := I47 }) :: (50, { sig := S50, impl := I50 }) :: (26, { sig := S26, impl := I26 }) :: (28, { sig := S28, impl := I28 }) :: (29, { sig := S29, impl := I29 }) :: (31, { sig := S31, impl := I31 }) :: (71, { sig := S71, impl := I71 }) :: (96, { sig := S96, impl := I96 }) :: (52, { sig := S52, impl := I52 }) :: (54, { sig := S54, impl := I54 }) :: GM'
theorem GP0_ok : CtxOk Try.prog GP0 := ctxOk_cons ok36 rfl c36 (ctxOk_cons ok95 rfl c95 (ctxOk_cons ok40 rfl c40 (ctxOk_cons ok51 rfl c51 (ctxOk_cons ok49 rfl c49 (ctxOk_cons ok33 rfl c33 (ctxOk_cons ok38 rfl c38 (ctxOk_cons ok44 rfl c44 (ctxOk_cons ok46 rfl c46 (ctxOk_cons ok47 rfl c47 (ctxOk_cons ok50 rfl c50 (ctxOk_cons ok26 rfl c26 (ctxOk_cons ok28 rfl c28 (ctxOk_cons ok29 rfl c29 (ctxOk_cons ok31 rfl c31 (ctxOk_cons ok71 rfl c71 (ctxOk_cons ok96 rfl c96 (ctxOk_cons ok52 rfl c52 (ctxOk_cons ok54 rfl c54 GM_ok'))))))))))))))))))
noncomputable def GP : Ctx := (999999, noFI) :: GP0
theorem GP_ok : CtxOk Try.prog GP := ctxOk_prune GP0_ok
def start2b (n : Nat) (x y : List Int) (c : Bool) : AS :=
  { n := n, lo := 0, tmps := [(0, .s (.one (.ints .u8 32 x))), (1, .s (.one (.ints .u8 32 y))), (2, .s (.one (.bool c)))], items := [] }
end Go.Proofs.Ytcgolglcjfknpaa

/- Contexts with Given. -/
namespace Go.Proofs.Ytcgolglcjfknpaa
open Go Go.Eng
set_option maxRecDepth 100000
noncomputable def QC0 : Ctx := (27, G27) :: (34, G34) :: GP0
theorem QC0_ok : CtxOk Try.prog QC0 := ctxOk_cons ok27 rfl cG27 (ctxOk_cons ok34 rfl cG34 GP0_ok)
noncomputable def QC : Ctx := (999999, noFI) :: QC0
theorem QC_ok : CtxOk Try.prog QC := ctxOk_prune QC0_ok
def startV (n : Nat) (x y : List Int) : AS :=
  { n := n, lo := 0, tmps := [(0, .s (.one (.ints .u8 32 x))), (1, .s (.one (.own 1)))], items := [(1, .view .u8 1 y)] }
end Go.Proofs.Ytcgolglcjfknpaa

/- What rime/rimelaw01.FieldPowers comes to. MADE BY PROGRAM (wip/tools/mkfn.py, EngGen.lean). -/
namespace Go.Proofs.Ytcgolglcjfknpaa
open Go Go.Eng
set_option maxRecDepth 100000
set_option linter.unusedVariables false

noncomputable def f5_raw {R : Type} (N : Nat) (x : List Int) (y : List Int) (k : List DV → Option R) : Option R :=
 bif okB x then
 bif okB x then
 bif Decidable.decide (feN (pw (vB x) pm2) = feN (pw (vB x) pm2)) then
 let v0 : Int := IntKind.i64.wrap (nI (rowLen 1 y) + 3);
 bif Decidable.decide (0 ≤ v0) && (Decidable.decide (v0 ≤ v0) && (Decidable.decide (v0 ≤ 281474976710656) && Decidable.decide (v0 * 1 ≤ 281474976710656))) then
 bif Decidable.decide (0 = 0) && (zerosOf (mulE v0.toNat 1)).length.ble limG then
 bif Decidable.decide (0 = 0) && (y.length.ble limG && y.length.ble (marksG (zerosOf (mulE v0.toNat 1)).length).length) then
 bif (overG y (marksG (zerosOf (mulE v0.toNat 1)).length)).length.ble limG then
 bif hiOk (Option.some (nI (rowLen 1 y))) (rowLen 1 (overG y (marksG (zerosOf (mulE v0.toNat 1)).length))) then
 let v1 : List Int := Go.Eng.sub (overG y (marksG (zerosOf (mulE v0.toNat 1)).length)) (plusO Off.z 1 Option.none) (mulE (Go.Eng.subN (hiNat (Option.some (nI (rowLen 1 y))) (rowLen 1 (overG y (marksG (zerosOf (mulE v0.toNat 1)).length)))) Option.none) 1);
 bif okB x && okE v1 then
 bif okB x && okE y then
 let v2 : Bool := bif Bool.true then Decidable.decide (feN (pw (vB x) (numB v1)) = feN (pw (vB x) (numB y))) else Bool.false;
 bif v2 then
 bif okB x then
 bif okB x then
 let v3 : Bool := bif Bool.true then legI (vB x) == legI (vB x) else Bool.false;
 bif v3 then
 bif okB x then
 bif okB x then
 let v4 : Bool := bif Bool.true then (vB x % 2 == 1) == (vB x % 2 == 1) else Bool.false;
 bif v4 then
 bif okB x then
 bif okB x then
 let v5 : Bool := bif Bool.true then Decidable.decide (feN (absN (vB x)) = feN (absN (vB x))) else Bool.false;
 bif v5 then
 bif (overG y (marksG (zerosOf (mulE v0.toNat 1)).length)).length.ble limG then
 bif !Decidable.decide (overG y (marksG (zerosOf (mulE v0.toNat 1)).length) = overG y (marksG (zerosOf (mulE v0.toNat 1)).length)) then Option.none
 else
 let v6 : Bool := bif Bool.true then Bool.true else Bool.false;
 k [DV.v (SV.one (At.bool v6))]
 else Option.none
 else Option.none
 else Option.none
 else Option.none
 else Option.none
 else Option.none
 else Option.none
 else Option.none
 else Option.none
 else Option.none
 else Option.none
 else Option.none
 else Option.none
 else Option.none
 else Option.none
 else Option.none
 else Option.none
 else Option.none
 else Option.none
 else Option.none
else Option.none


noncomputable def E5 (N : Nat) : Env := { Θ := Th, Γ := QC, K := K5, ν := N5, fuel := 0, lp := [] }


theorem f5_loops (N : Nat) (hΓ : CtxOk Try.prog QC) : LoopsOk Try.prog (E5 N).lp B5 := loopsOk_of (l := []) (by kernel_rfl) trivial
theorem f5_raw_eq {R : Type} (N : Nat) (x : List Int) (y : List Int) (k : List DV → Option R) : exec (E5 N) B5 (startV 48 x y) (retK Th { ps := [], rs := [.val] } [] R5 k) = f5_raw N x y k := by kernel_rfl
end Go.Proofs.Ytcgolglcjfknpaa

/- FieldPowers: what is compared is the same. -/
namespace Go.Proofs.Ytcgolglcjfknpaa
open Go Go.Eng
set_option maxRecDepth 100000
theorem f5_true (N : Nat) {x y : List Int} (hx : okB x = true) (hy : okE y = true) (hl : y.length ≤ 1048576) : f5_raw N x y some = some [.v (.one (.bool true))] := by
  unfold f5_raw
  dsimp only
  simp only [given_wrap hl, given_make hl, given_len, marksG_length, overG_given, given_hi, given_sub, givenG_length, given_lim (show y.length ≤ 1048579 by omega), given_lim (show y.length + 3 ≤ 1048579 by omega),
    hx, hy, cond_true, cond_false, Bool.and_self, decide_true, Bool.true_and, beq_self_eq_true, Bool.not_true, show y.length.ble (y.length + 3) = true from Nat.ble_eq_true_of_le (by omega)]
end Go.Proofs.Ytcgolglcjfknpaa

/- FieldPowers: for any field element and any bytes whose data stay within 1,048,576: Invert, Power, Legendre, IsNegative and Abs answer as the document, and the bytes that were handed in stand as they stood. -/
namespace Go.Proofs.Ytcgolglcjfknpaa
open Go Go.Eng Go.ChangeShapes Go.WideShapes Go.RowKit Go.ChangeAt
set_option maxRecDepth 100000

theorem contract5 (H : Type) (enc : TypeId × Value → H) (W : World) (base : Nat) (args : Array Value) (ds gs : List (DataW H)) (before : List MemPlace)
    (hval : ∀ (j : Nat) t v, Try.f5.params[j]? = some t → args[j]? = some v → Value.okWide Try.prog W .any base t v)
    (hW : DataW.Whole enc Try.prog Try.f5.params.toList Rows.fieldPowersSpec.vars false W args.toList ds gs before) (hk : Rows.uptoSmall H (ds ++ gs) = true) :
    Calls Try.prog 5 args W fun e W' => ∃ v, e = .returned v ∧ Rows.fieldPowersSpec.post enc Try.prog Try.f5 false true false false W args v W' := by
  have hW' := hW
  obtain ⟨p, q, hA, hV, rfl, hfz, hnd⟩ := hW
  obtain ⟨rfl, rfl⟩ := trodVars_none hV
  rw [Try.params5] at hA hval
  obtain ⟨v0, vs0, d0, ds0, p0, q0, hargs, rfl, rfl, h0, r0⟩ := trodAll_cons hA
  obtain ⟨v1, vs1, d1, ds1, p1, q1, rfl, rfl, rfl, h1, r1⟩ := trodAll_cons r0
  obtain ⟨rfl, rfl, rfl⟩ := trodAll_nil r1
  obtain rfl : args = #[v0, v1] := by cases args; simp_all
  have hb := bulk_bound hk
  simp only [List.append_nil, Rows.uptoBulkAll, Nat.add_zero] at hb
  obtain ⟨x0, rfl, l0, w0⟩ := open_arr Try.underlying23 Try.underlying5 (by kernel_rfl) (by kernel_rfl) (hval 0 23 v0 rfl rfl) h0
  obtain ⟨A1, n1, c1, rfl⟩ := okWide_slice Try.underlying32 (hval 1 32 v1 rfl rfl)
  obtain ⟨f1, h1⟩ := h1
  obtain ⟨x1, len1, cap1, Ad1, loc1, o11, o12, l1, o14, o15, o16, w1, o18⟩ := open_view (k := .u8) (es := 1) Try.underlying32 (by omega) (elB H enc) h1
  have b1 : len1 ≤ Rows.uptoBulk d1 := bulk_slice o18
  have hs : Sim W ⟨fun _ => False, locOf [(1, loc1)], fun _ => 0, (startV 48 x0 x1).S⟩ (⟨locOf [(1, loc1)], fun _ => 0⟩ : Rho) (startV 48 x0 x1) { tmps := #[.agg (x0.map (Value.int .u8)).toArray, .slice A1 n1 c1] ++ Array.replicate (48 - 2) undef, defers := [] } W := by
    refine sim_start (s0 := startV 48 x0 x1) (ρ := ⟨locOf [(1, loc1)], fun _ => 0⟩) (args := #[.agg (x0.map (Value.int .u8)).toArray, .slice A1 n1 c1]) (n := 48) (avs := [.s (.one (.ints .u8 32 x0)), .s (.one (.own 1))]) rfl (by simp) rfl ?_ ?_ ?_ ⟨⟨rfl, l0⟩, (show RelAt ⟨locOf [(1, loc1)], fun _ => 0⟩ (startV 48 x0 x1).S (.own 1) [Value.slice A1 n1 c1] from rel_own rfl o11 o12 l1 o15 (by omega) rfl), trivial⟩
    · simp [startV, Nodup', putNames]
    · intro j it hi
      simp only [startV, AS.I, findI_cons] at hi
      split at hi
      · rename_i hj; subst hj; injection hi with hi; subst hi
        exact ⟨_, _, _, rfl, by omega, ⟨len1, l1⟩, o14⟩
      ·
        simp [findI] at hi
    · intro j p hp
      simp only [locOf] at hp
      split at hp
      · exact o16 p hp
      ·
        cases hp
  have he := f5_true 0 (okB_row l0 w0) (okE_row (by omega) l1 w1) (by omega)
  rw [← f5_raw_eq] at he
  refine (law_calls thOk QC_ok mixed ok5 (f5_loops 0 QC_ok) (fun _ => id) hs he).mono fun e W' ⟨h1, h2, h3, h4⟩ => ?_
  exact ⟨_, h1, post_of_law laidOut (by kernel_rfl) Try.underlying4 rfl (by rw [Try.params5]; intro t ht; simp only [List.mem_cons, List.not_mem_nil, or_false] at ht; rcases ht with rfl | rfl <;> exact ⟨by kernel_rfl, by decide +kernel⟩) ⟨rfl, rfl, rfl⟩ hW' h2 h3 h4⟩

theorem lifted5 (os : Os) (started : os.Started) (H : Type) (enc : TypeId × Value → H) (F : Stop.Interp) :
    ReturnsInHanded {} Try.checked os 5 .any ((Rows.OpenSpec.upto Rows.fieldPowersSpec).pre6 enc Try.prog Try.f5 Rows.fieldPowersUptoRow.domain false) (((Rows.OpenSpec.upto Rows.fieldPowersSpec).at F).post enc Try.prog Try.f5 false true false false) := by
  refine returnsInHanded_of_cond (C := Try.checked) (s := Rows.OpenSpec.upto Rows.fieldPowersSpec) (k := Rows.uptoSmall) rfl own0 started (by kernel_rfl) Try.func5
    (OpenSpec.witness (enc := enc) (C := Try.checked) (s := Rows.OpenSpec.upto Rows.fieldPowersSpec) (k := Rows.uptoSmall) rfl false ⟨#[], #[.agg (Array.mk (List.replicate 32 (Value.int .u8 0))), .slice none 0 0], []⟩ 8 (by kernel_rfl) (by kernel_rfl) (by kernel_rfl)
      (x := ([.agg (List.replicate 32 (.lit (.int .u8 0))), .nil], [], [])) (by kernel_rfl) rfl (by kernel_rfl)) ?_
  intro W base args ds gs before hval hW _ hk _
  exact contract5 H enc W base args ds gs before hval hW hk

theorem over5 : Rows.fieldPowersUptoRow.holds Try.pinned (Rows.OpenSpec.upto Rows.fieldPowersSpec) :=
  OpenClaim.holds_of_cond 5 Try.f5 rfl rfl rfl rfl rfl rfl rfl ⟨rfl, rfl, rfl, rfl, rfl⟩ rfl rfl rfl rfl rfl (by kernel_rfl) Try.func5 (by kernel_rfl)
    (of_decide_eq_true (by kernel_rfl)) (by unfold Func.isWrapper; first | (rw [if_pos (by decide +kernel)]; kernel_rfl) | (rw [if_neg (by decide +kernel)]; exact ⟨rfl, rfl⟩))
    (fun os started H enc _ F => lifted5 os started H enc F)

theorem fieldPowers_holds : Rows.FieldPowersUptoSaid := over5
end Go.Proofs.Ytcgolglcjfknpaa

#print axioms Go.Proofs.Ytcgolglcjfknpaa.fieldPowers_holds
