/- ShamirSums: for any two polynomials, scalar and identifiers whose data stay within 1,048,576: the shares of a sum are the sums of the shares, of a multiple the multiples; what was handed in stands as it stood. -/
import Derived.Test.YtogcijgklnfjjaaShamirSumsUptoSaidT4
import Derived.Test.YtogcijgklnfjjaaRows
import Derived.JoinedCond
import Derived.WalkKit
import Derived.ProofKit
set_option linter.unusedVariables false
set_option linter.unusedSimpArgs false

namespace Go.Proofs.Ytogcijgklnfjjaa
open Go Go.Eng
set_option maxRecDepth 100000
set_option linter.unusedVariables false

def ptX (p : List Int) (i : Nat) : List Int := List.take 32 (List.drop (i * 64) p)
def ptY (p : List Int) (i : Nat) : List Int := List.take 32 (List.drop (i * 64 + 32) p)
def okP (p : List Int) : Bool := (Nat.beq (p.length % 64) 0 && Nat.ble p.length 1073741824) && p.all fun b => decide (0 ≤ b) && decide (b < 256)
theorem okP_n {p : List Int} (h : okP p = true) : p.length = (p.length / 64) * 64 ∧ p.length ≤ 1073741824 := by
  unfold okP at h
  simp only [Bool.and_eq_true] at h
  have h1 := Nat.eq_of_beq_eq_true h.1.1
  have h2 := Nat.le_of_ble_eq_true h.1.2
  omega
theorem okB_take {p : List Int} (h : p.all (fun b => decide (0 ≤ b) && decide (b < 256)) = true) {e : Nat} (he : e + 32 ≤ p.length) : okB (List.take 32 (List.drop e p)) = true := by
  have h3 := List.all_eq_true.1 h
  unfold okB
  rw [decide_eq_true (by rw [List.length_take, List.length_drop]; omega), Bool.true_and, List.all_eq_true]
  intro b hb
  exact h3 b (List.mem_of_mem_drop (List.mem_of_mem_take hb))
theorem okP_x {p : List Int} (h : okP p = true) {i : Nat} (hi : i < p.length / 64) : okB (ptX p i) = true := by
  have hn := okP_n h
  unfold okP at h
  rw [Bool.and_eq_true] at h
  exact okB_take h.2 (by omega)
theorem okP_y {p : List Int} (h : okP p = true) {i : Nat} (hi : i < p.length / 64) : okB (ptY p i) = true := by
  have hn := okP_n h
  unfold okP at h
  rw [Bool.and_eq_true] at h
  exact okB_take h.2 (by omega)
theorem rows64 (p : List Int) : nI (rowLen 64 p) = ((p.length / 64 : Nat) : Int) := rfl
noncomputable def pX (p : List Int) (i : Nat) : Nat := vS (ptX p i)
noncomputable def pY (p : List Int) (i : Nat) : Nat := vS (ptY p i)
theorem pY_lt (p : List Int) : LtE (pY p) := fun _ => vS_lt _

def dupAll (key : Nat → List Int) : Nat → Nat → Bool
  | 0, _ => false
  | j + 1, i => hasK key (key i) i || dupAll key j (i + 1)
noncomputable def keyP (p : List Int) (i : Nat) : List Int := sN (pX p i)
noncomputable def dupsP (p : List Int) : Bool := dupAll (keyP p) (p.length / 64) 0

theorem f9_seen {R : Type} {N : Nat} (K : Int → Option R) (k2 : Bool → Int → Int → List Int → List (List Int) → Option R) {p : List Int} {n : Nat} (hp : okP p = true) (hn : p.length / 64 = n) (hb : n ≤ 30000) :
    ∀ j i : Nat, i + j = n → ∀ fuel, j < fuel → f9_0_lp N (fun w _ _ _ _ _ _ _ _ _ _ => K w) k2 fuel (n : Int) (i : Int) p (seenG (keyP p) i) =
      bif dupAll (keyP p) j i then K 5 else k2 false (n : Int) (n : Int) p (seenG (keyP p) n) := by
  intro j
  induction j with
  | zero =>
    intro i h fuel hf
    obtain ⟨f, rfl⟩ : ∃ f, fuel = f + 1 := ⟨fuel - 1, by omega⟩
    show f9_0_st N (f9_0_lp N _ _ f) _ _ _ _ _ _ = _
    unfold f9_0_st
    rw [ltF (by omega), cond_false, show i = n by omega]
    rfl
  | succ j ih =>
    intro i h fuel hf
    obtain ⟨f, rfl⟩ : ∃ f, fuel = f + 1 := ⟨fuel - 1, by omega⟩
    show f9_0_st N (f9_0_lp N _ _ f) _ _ _ _ _ _ = _
    unfold f9_0_st
    have e1 : List.take 32 (List.drop (Int.toNat (i : Int) * 64 + 0) p) = ptX p i := rfl
    have hk : sN (addN (vS (ptX p i)) (vS (List.replicate 32 (0 : Int)))) = keyP p i := by
      rw [b_zero', vS_sN ell_pos, addN_zero (vS_lt _)]; rfl
    have hz : okB (List.replicate 32 (0 : Int)) = true := by rw [b_zero']; exact okB_sN 0
    rw [ltT (show i < n by omega), rows64, hn, ge0, ltT (show i < n by omega), e1, okP_x hp (by omega), hz, hk, seen_has, wAdd (by omega)]
    simp only [Bool.and_self, cond_true]
    unfold dupAll
    cases hasK (keyP p) (keyP p i) i with
    | true => rfl
    | false =>
      rw [cond_false, Bool.false_or]
      exact ih (i + 1) (by omega) f (by omega)

theorem f9_ys {R : Type} {N : Nat} (k1 : Bool → Int → Int → Int → List Int → List Int → Option R) {p : List Int} {n : Nat} (hp : okP p = true) (hn : p.length / 64 = n) (hb : n ≤ 30000) :
    ∀ j i : Nat, i + j = n → ∀ fuel, j < fuel → ∀ g, LtE g → f9_2_lp N k1 fuel (n : Int) (n : Int) (i : Int) p (arrN g n) = k1 false (n : Int) (n : Int) (n : Int) p (arrN (iterF (fun i g => upd g i (pY p i)) j i g) n) := by
  intro j
  induction j with
  | zero =>
    intro i h fuel hf g hg
    obtain ⟨f, rfl⟩ : ∃ f, fuel = f + 1 := ⟨fuel - 1, by omega⟩
    show f9_2_st N (f9_2_lp N _ f) _ _ _ _ _ _ = _
    unfold f9_2_st
    rw [ltF (by omega), cond_false, show i = n by omega]
    rfl
  | succ j ih =>
    intro i h fuel hf g hg
    obtain ⟨f, rfl⟩ : ∃ f, fuel = f + 1 := ⟨fuel - 1, by omega⟩
    show f9_2_st N (f9_2_lp N _ f) _ _ _ _ _ _ = _
    unfold f9_2_st
    have e1 : List.take 32 (List.drop (Int.toNat (i : Int) * 64 + (0 + 32)) p) = ptY p i := rfl
    have hk : addN (vS (ptY p i)) (vS (List.replicate 32 (0 : Int))) = pY p i := by
      rw [b_zero', vS_sN ell_pos, addN_zero (vS_lt _)]; rfl
    have hz : okB (List.replicate 32 (0 : Int)) = true := by rw [b_zero']; exact okB_sN 0
    rw [ltT (show i < n by omega), rows64, hn, ge0, ltT (show i < n by omega), e1, okP_y hp (by omega), hz, hk, arr_rows, ltT (show i < n by omega), wAdd (by omega), toN, arr_set g _ (show i < n by omega)]
    simp only [Bool.and_self, cond_true]
    exact ih (i + 1) (by omega) f (by omega) _ (hg.upd (vS_lt _) _)

def downF {α : Type} (step : Nat → α → α) (k : Nat) : Nat → α → α
  | 0, g => g
  | m + 1, g => downF step k m (step (k + m) g)
theorem downF_inv {α : Type} {P : α → Prop} {step : Nat → α → α} (hs : ∀ i g, P g → P (step i g)) (k : Nat) : ∀ (m : Nat) (g : α), P g → P (downF step k m g)
  | 0, _, h => h
  | m + 1, g, h => downF_inv hs k m _ (hs _ g h)

noncomputable def ddSt (X : Nat → Nat) (k i : Nat) (g : Nat → Nat) : Nat → Nat := upd g i (mulN (difN (g i) (g (i - 1))) (invN (difN (X i) (X (i - k)))))
theorem f9_dd {R : Type} {N : Nat} (k1 : Bool → Int → Int → Int → List Int → List Int → Option R) {p : List Int} {n k : Nat} (hp : okP p = true) (hn : p.length / 64 = n) (hb : n ≤ 30000) (hk : 1 ≤ k) :
    ∀ m : Nat, k + m ≤ n → ∀ fuel, m < fuel → ∀ g, LtE g → f9_6_lp N k1 fuel (n : Int) (k : Int) (((k + m : Nat) : Int) - 1) p (arrN g n) = k1 false (n : Int) (k : Int) ((k : Int) - 1) p (arrN (downF (ddSt (pX p) k) k m g) n) := by
  intro m
  induction m with
  | zero =>
    intro h fuel hf g hg
    obtain ⟨f, rfl⟩ : ∃ f, fuel = f + 1 := ⟨fuel - 1, by omega⟩
    show f9_6_st N (f9_6_lp N _ f) _ _ _ _ _ _ = _
    unfold f9_6_st
    rw [decide_eq_false (show ¬ (((k + 0 : Nat) : Int) - 1 ≥ (k : Int)) by omega), cond_false]
    rfl
  | succ m ih =>
    intro h fuel hf g hg
    obtain ⟨f, rfl⟩ : ∃ f, fuel = f + 1 := ⟨fuel - 1, by omega⟩
    show f9_6_st N (f9_6_lp N _ f) _ _ _ _ _ _ = _
    unfold f9_6_st
    rw [show ((k + (m + 1) : Nat) : Int) - 1 = ((k + m : Nat) : Int) by omega]
    have w1 : IntKind.i64.wrap (((k + m : Nat) : Int) - (k : Int)) = (m : Int) := by
      rw [show ((k + m : Nat) : Int) - (k : Int) = (m : Int) by omega]; exact wi64 (by omega)
    obtain ⟨q, hq⟩ : ∃ q, k + m = q + 1 := ⟨k + m - 1, by omega⟩
    have w2 : IntKind.i64.wrap (((k + m : Nat) : Int) - 1) = (q : Int) := by rw [hq]; exact wSub (by omega)
    have e1 : List.take 32 (List.drop (Int.toNat ((k + m : Nat) : Int) * 64 + (0 + 0)) p) = ptX p (k + m) := rfl
    have e2 : List.take 32 (List.drop (Int.toNat (m : Int) * 64 + (0 + 0)) p) = ptX p m := rfl
    have hz : okB (List.replicate 32 (0 : Int)) = true := by rw [b_zero']; exact okB_sN 0
    have hv0 : vS (List.replicate 32 (0 : Int)) = 0 := by rw [b_zero']; exact vS_sN ell_pos
    rw [w1, w2]
    dsimp only
    rw [decide_eq_true (show ((k + m : Nat) : Int) ≥ (k : Int) by omega), rows64, hn, ge0, ltT (show k + m < n by omega), ge0, ltT (show m < n by omega), e1, e2, okP_x hp (by omega), okP_x hp (by omega), okB_sN, vS_sN (difN_lt _ _),
      arr_rows, ge0, ltT (show q < n by omega), ltT (show k + m < n by omega), toN, toN, arr_el g (show k + m < n by omega), arr_el g (show q < n by omega), okB_sN, okB_sN, okB_sN, hz, okB_sN, vS_sN (hg _), vS_sN (hg _), vS_sN (difN_lt _ _), hv0, vS_sN (invN_lt _)]
    simp only [Bool.and_self, cond_true]
    rw [arr_set g _ (show k + m < n by omega), arr_set g _ (show k + m < n by omega)]
    have hstep : ddSt (pX p) k (k + m) g = upd g (k + m) (mulN (difN (g (k + m)) (g q)) (invN (difN (vS (ptX p (k + m))) (vS (ptX p m))))) := by
      unfold ddSt
      rw [show k + m - 1 = q by omega, show k + m - k = m by omega]; rfl
    have hd : downF (ddSt (pX p) k) k (m + 1) g = downF (ddSt (pX p) k) k m (ddSt (pX p) k (k + m) g) := rfl
    have hq2 : (q : Int) = ((k + m : Nat) : Int) - 1 := by omega
    rw [hd]
    by_cases h0 : difN (vS (ptX p (k + m))) (vS (ptX p m)) = 0
    · rw [decide_eq_true h0, cond_true]
      rw [h0, invN_zero] at hstep
      rw [← hstep, hq2]
      exact ih (by omega) f (by omega) _ (hg.upd (mulN_lt _ _) _)
    · rw [decide_eq_false h0, cond_false, ← hstep, hq2]
      exact ih (by omega) f (by omega) _ (hg.upd (mulN_lt _ _) _)

noncomputable def ddPass (X : Nat → Nat) (n k : Nat) (g : Nat → Nat) : Nat → Nat := downF (ddSt X k) k (n - k) g
theorem ddPass_lt {X : Nat → Nat} {n k : Nat} {g : Nat → Nat} (h : LtE g) : LtE (ddPass X n k g) := downF_inv (fun i g h => h.upd (mulN_lt _ _) _) _ _ _ h
theorem f9_passes {R : Type} {N : Nat} (k1 : Bool → Int → Int → List Int → List Int → Option R) {p : List Int} {n : Nat} (hp : okP p = true) (hn : p.length / 64 = n) (hb : n ≤ 30000) (hN : n < N) (h1n : 1 ≤ n) :
    ∀ j k : Nat, k + j = n → 1 ≤ k → ∀ fuel, j < fuel → ∀ g, LtE g → f9_4_lp N k1 fuel (n : Int) (k : Int) p (arrN g n) = k1 false (n : Int) (n : Int) p (arrN (iterF (ddPass (pX p) n) j k g) n) := by
  intro j
  induction j with
  | zero =>
    intro k h hk fuel hf g hg
    obtain ⟨f, rfl⟩ : ∃ f, fuel = f + 1 := ⟨fuel - 1, by omega⟩
    show f9_4_st N (f9_4_lp N _ f) _ _ _ _ _ = _
    unfold f9_4_st
    rw [ltF (by omega), cond_false, show k = n by omega]
    rfl
  | succ j ih =>
    intro k h hk fuel hf g hg
    obtain ⟨f, rfl⟩ : ∃ f, fuel = f + 1 := ⟨fuel - 1, by omega⟩
    show f9_4_st N (f9_4_lp N _ f) _ _ _ _ _ = _
    unfold f9_4_st
    obtain ⟨q, hq⟩ : ∃ q, n = q + 1 := ⟨n - 1, by omega⟩
    have w2 : IntKind.i64.wrap ((n : Int) - 1) = ((k + (n - k) : Nat) : Int) - 1 := by
      rw [show ((k + (n - k) : Nat) : Int) - 1 = (q : Int) by omega, hq]; exact wSub (by omega)
    rw [ltT (show k < n by omega), cond_true, w2]
    refine (f9_dd _ hp hn hb hk (n - k) (by omega) N (by omega) g hg).trans ?_
    rw [wAdd (by omega)]
    exact ih (k + 1) (by omega) (by omega) f (by omega) _ (ddPass_lt hg)

noncomputable def upSt (X : Nat → Nat) (k i : Nat) (g : Nat → Nat) : Nat → Nat := upd g i (difN (g (i - 1)) (mulN (g i) (X k)))
theorem f9_up {R : Type} {N : Nat} (k1 : Bool → Int → Int → Int → List Int → List Int → List Int → Option R) {p D : List Int} {n k : Nat} (hp : okP p = true) (hn : p.length / 64 = n) (hb : n ≤ 30000) (hk : k < n) :
    ∀ m : Nat, m + 1 ≤ n → ∀ fuel, m < fuel → ∀ g, LtE g → f9_10_lp N k1 fuel (n : Int) (k : Int) (m : Int) p D (arrN g n) = k1 false (n : Int) (k : Int) 0 p D (arrN (downF (upSt (pX p) k) 1 m g) n) := by
  intro m
  induction m with
  | zero =>
    intro h fuel hf g hg
    obtain ⟨f, rfl⟩ : ∃ f, fuel = f + 1 := ⟨fuel - 1, by omega⟩
    show f9_10_st N (f9_10_lp N _ f) _ _ _ _ _ _ _ = _
    unfold f9_10_st
    rw [decide_eq_false (show ¬ (((0 : Nat) : Int) > 0) by omega), cond_false]
    rfl
  | succ m ih =>
    intro h fuel hf g hg
    obtain ⟨f, rfl⟩ : ∃ f, fuel = f + 1 := ⟨fuel - 1, by omega⟩
    show f9_10_st N (f9_10_lp N _ f) _ _ _ _ _ _ _ = _
    unfold f9_10_st
    have e1 : List.take 32 (List.drop (Int.toNat (k : Int) * 64 + (0 + 0)) p) = ptX p k := rfl
    rw [decide_eq_true (show ((m + 1 : Nat) : Int) > 0 by omega), wSub (by omega)]
    dsimp only
    rw [rows64, hn, ge0, ge0, ge0, ltT (show k < n by omega), arr_rows, ltT (show m < n by omega), ltT (show m + 1 < n by omega), toN, toN, e1, arr_el g (show m + 1 < n by omega), arr_el g (show m < n by omega), okP_x hp (by omega), okB_sN, okB_sN, okB_sN, vS_sN (hg _), vS_sN (hg _), vS_sN (mulN_lt _ _), arr_set g _ (show m + 1 < n by omega)]
    simp only [Bool.and_self, cond_true]
    have hstep : upSt (pX p) k (1 + m) g = upd g (m + 1) (difN (g m) (mulN (g (m + 1)) (vS (ptX p k)))) := by
      unfold upSt
      rw [show 1 + m - 1 = m by omega, show 1 + m = m + 1 by omega]; rfl
    have hd : downF (upSt (pX p) k) 1 (m + 1) g = downF (upSt (pX p) k) 1 m (upSt (pX p) k (1 + m) g) := rfl
    rw [hd, hstep]
    exact ih (by omega) f (by omega) _ (hg.upd (difN_lt _ _) _)

noncomputable def outSt (X D : Nat → Nat) (n k : Nat) (g : Nat → Nat) : Nat → Nat :=
  upd (downF (upSt X k) 1 (n - 1) g) 0 (difN (D k) (mulN (downF (upSt X k) 1 (n - 1) g 0) (X k)))
theorem outSt_lt {X D : Nat → Nat} {n k : Nat} {g : Nat → Nat} (h : LtE g) : LtE (outSt X D n k g) := (downF_inv (P := LtE) (fun i g h => h.upd (difN_lt _ _) _) _ _ _ h).upd (difN_lt _ _) _
theorem f9_outs {R : Type} {N : Nat} (k1 : Bool → Int → Int → List Int → List Int → List Int → Option R) {p : List Int} {D : Nat → Nat} {n : Nat} (hp : okP p = true) (hn : p.length / 64 = n) (hb : n ≤ 30000) (hN : n < N) (h1n : 1 ≤ n) (hD : LtE D) :
    ∀ m : Nat, m ≤ n → ∀ fuel, m < fuel → ∀ g, LtE g → f9_8_lp N k1 fuel (n : Int) ((m : Int) - 1) p (arrN D n) (arrN g n) = k1 false (n : Int) (-1) p (arrN D n) (arrN (downF (outSt (pX p) D n) 0 m g) n) := by
  intro m
  induction m with
  | zero =>
    intro h fuel hf g hg
    obtain ⟨f, rfl⟩ : ∃ f, fuel = f + 1 := ⟨fuel - 1, by omega⟩
    show f9_8_st N (f9_8_lp N _ f) _ _ _ _ _ _ = _
    unfold f9_8_st
    rw [decide_eq_false (show ¬ (((0 : Nat) : Int) - 1 ≥ 0) by omega), cond_false]
    rfl
  | succ m ih =>
    intro h fuel hf g hg
    obtain ⟨f, rfl⟩ : ∃ f, fuel = f + 1 := ⟨fuel - 1, by omega⟩
    show f9_8_st N (f9_8_lp N _ f) _ _ _ _ _ _ = _
    unfold f9_8_st
    obtain ⟨q, hq⟩ : ∃ q, n = q + 1 := ⟨n - 1, by omega⟩
    have w2 : IntKind.i64.wrap ((n : Int) - 1) = ((n - 1 : Nat) : Int) := by
      rw [show ((n - 1 : Nat) : Int) = (q : Int) by omega, hq]; exact wSub (by omega)
    have g1lt : LtE (downF (upSt (pX p) m) 1 (n - 1) g) := downF_inv (P := LtE) (fun i g h => h.upd (difN_lt _ _) _) _ _ _ hg
    rw [show ((m + 1 : Nat) : Int) - 1 = (m : Int) by omega, decide_eq_true (show (m : Int) ≥ 0 by omega), cond_true, w2]
    refine (f9_up _ hp hn hb (show m < n by omega) (n - 1) (by omega) N (by omega) g hg).trans ?_
    have e1 : List.take 32 (List.drop (Int.toNat (m : Int) * 64 + (0 + 0)) p) = ptX p m := rfl
    have w3 : IntKind.i64.wrap ((m : Int) - 1) = (m : Int) - 1 := wrapI (by omega) (by omega)
    have e0 : mulE (Int.toNat 0) 32 = 0 * 32 := rfl
    rw [rows64, hn, ge0, ltT (show m < n by omega), arr_rows, arr_rows, ltT (show m < n by omega), show decide ((0 : Nat) ≤ 0) = true from rfl, decide_eq_true (show (0 : Int) < (n : Int) by omega), e1, e0, toN, arr_el _ (show 0 < n by omega), arr_el D (show m < n by omega), okP_x hp (by omega), okB_sN, okB_sN, okB_sN,
      vS_sN (hD _), vS_sN (g1lt _), vS_sN (mulN_lt _ _), arr_set _ _ (show 0 < n by omega), w3]
    simp only [Bool.and_self, cond_true]
    have hstep : outSt (pX p) D n (0 + m) g = upd (downF (upSt (pX p) m) 1 (n - 1) g) 0 (difN (D m) (mulN (downF (upSt (pX p) m) 1 (n - 1) g 0) (vS (ptX p m)))) := by
      unfold outSt
      rw [show 0 + m = m by omega]; rfl
    have hd : downF (outSt (pX p) D n) 0 (m + 1) g = downF (outSt (pX p) D n) 0 m (outSt (pX p) D n (0 + m) g) := rfl
    rw [hd, ← hstep]
    exact ih (by omega) f (by omega) _ (outSt_lt hg)

noncomputable def ysG (Y : Nat → Nat) (n : Nat) : Nat → Nat := iterF (fun i g => upd g i (Y i)) n 0 (fun _ => 0)
noncomputable def ddG (X Y : Nat → Nat) (n : Nat) : Nat → Nat := iterF (ddPass X n) (n - 1) 1 (ysG Y n)
noncomputable def newtG (X Y : Nat → Nat) (n : Nat) : Nat → Nat := downF (outSt X (ddG X Y n) n) 0 n (fun _ => 0)
theorem ysG_lt {Y : Nat → Nat} (h : LtE Y) (n : Nat) : LtE (ysG Y n) := iterF_inv (fun i g hg => hg.upd (h i) _) _ _ _ ltE_zero
theorem ddG_lt {X Y : Nat → Nat} (h : LtE Y) (n : Nat) : LtE (ddG X Y n) := iterF_inv (fun i g hg => ddPass_lt hg) _ _ _ (ysG_lt h n)
noncomputable def badP (p : List Int) : Bool := decide (p.length / 64 = 0) || decide (p.length / 64 > 255)
noncomputable def I9 : (R : Type) → List DV → (List DV → Option R) → Option R := fun _ ds k => match ds with
  | [.lst (.mix l) 64 p] => match cksEq l ck32 with
    | true => bif okP p then (bif badP p then k [.lst (.one .u8) 32 [], .v (.one (.int .i64 8))] else bif dupsP p then k [.lst (.one .u8) 32 [], .v (.one (.int .i64 5))]
        else k [.lst (.one .u8) 32 (arrN (newtG (pX p) (pY p) (p.length / 64)) (p.length / 64)), .v (.one (.int .i64 0))]) else none
    | false => none
  | _ => none
theorem c9 : Contract Try.prog 9 { sig := S9, impl := I9 } := by
  refine Contract.refine fun R ds k r h => ?_
  unfold I9 at h
  split at h
  · rename_i l p
    refine ⟨_, f9_contract (p.length / 64 + 2) GT2_ok, ?_⟩
    split at h
    · rename_i hl
      have hl := cksEq_iff.1 hl
      subst hl
      cases hc : okP p with
      | false => rw [hc] at h; cases h
      | true =>
        rw [hc, cond_true] at h
        have hlen := okP_n hc
        show call (E9 (p.length / 64 + 2)) S9 161 B9 R9 [DV.lst (RK.mix ck32) 64 p] k = some r
        rw [f9_raw_eq]
        unfold f9_raw
        rw [rows64]
        generalize hn : p.length / 64 = n at *
        unfold badP dupsP at h
        rw [hn] at h
        by_cases h0 : n = 0
        · rw [decide_eq_true h0, Bool.true_or, cond_true] at h
          subst h0
          exact h
        · have e0 : ((n : Int) == 0) = false := by simp; omega
          rw [e0, cond_false]
          dsimp only
          rw [decide_eq_false h0, Bool.false_or] at h
          have e1 : decide ((n : Int) > 255) = decide (n > 255) := by rw [Bool.eq_iff_iff]; simp; omega
          rw [cond_false, e1]
          cases h5 : decide (n > 255) with
          | true => rw [h5] at h; exact h
          | false =>
            rw [h5, cond_false] at h
            rw [cond_false]
            have h5 := of_decide_eq_false h5
            refine (f9_seen _ _ hc hn (by omega) n 0 (by omega) (n + 2) (by omega)).trans ?_
            cases hd : dupAll (keyP p) n 0 with
            | true => rw [hd] at h; exact h
            | false =>
              rw [hd, cond_false] at h
              rw [cond_false]
              have e2 : (decide (0 ≤ (n : Int)) && (decide ((n : Int) ≤ (n : Int)) && (decide ((n : Int) ≤ 281474976710656) && decide ((n : Int) * 32 ≤ 281474976710656)))) = true := by
                simp only [Bool.and_eq_true, decide_eq_true_eq]; omega
              rw [rows64, hn, e2, cond_true, toN, arr_zero]
              refine (f9_ys _ hc hn (by omega) n 0 (by omega) (n + 2) (by omega) _ ltE_zero).trans ?_
              refine (f9_passes _ hc hn (by omega) (by omega) (by omega) (n - 1) 1 (by omega) (by omega) (n + 2) (by omega) _ (ysG_lt (pY_lt p) n)).trans ?_
              rw [e2, cond_true, toN, arr_zero]
              have w2 : IntKind.i64.wrap ((n : Int) - 1) = (n : Int) - 1 := wrapI (by omega) (by omega)
              rw [w2]
              refine (f9_outs _ hc hn (by omega) (by omega) (by omega) (ddG_lt (pY_lt p) n) n (Nat.le_refl n) (n + 2) (by omega) _ ltE_zero).trans ?_
              exact h
    · cases h
  · cases h
end Go.Proofs.Ytogcijgklnfjjaa

namespace Go.Proofs.Ytogcijgklnfjjaa
open Go Go.Eng Go.ChangeShapes Go.WideShapes Go.RowKit
set_option maxRecDepth 100000
theorem own0 : ownKnob Try.prog.godebug = none := by kernel_rfl
theorem laidOut : laidOutB Try.prog = true := by kernel_rfl
theorem wf_u8 {y : Int} (h : (Lit.int .u8 y).wf = true) : 0 ≤ y ∧ y < 256 := by
  have := bounds_u8 h; omega
theorem bulk_one {H : Type} (d : DataW H) : 1 ≤ Rows.uptoBulk d := by
  cases d with
  | lit l => cases l <;> simp [Rows.uptoBulk]
  | nil => simp [Rows.uptoBulk]
  | ptr d => simp [Rows.uptoBulk]
  | slice elems spare => simp [Rows.uptoBulk]
  | agg parts => simp [Rows.uptoBulk]
  | iface t d => simp [Rows.uptoBulk]
  | map entries => simp [Rows.uptoBulk]
  | held h => simp [Rows.uptoBulk]
theorem bulk_length {H : Type} (l : List (DataW H)) : l.length ≤ Rows.uptoBulkAll l := by
  induction l with
  | nil => simp [Rows.uptoBulkAll]
  | cons x r ih => have := bulk_one x; simp only [Rows.uptoBulkAll, List.length_cons]; omega
theorem bulk_slice {H : Type} {d : DataW H} {len : Nat} (h : (d = .nil ∧ len = 0) ∨ ∃ elems spare, d = .slice elems spare ∧ elems.length = len) : len ≤ Rows.uptoBulk d := by
  rcases h with ⟨rfl, rfl⟩ | ⟨elems, spare, rfl, rfl⟩
  · exact Nat.zero_le _
  · have := bulk_length elems
    simp only [Rows.uptoBulk]; omega
theorem bulk_bound {H : Type} {l : List (DataW H)} (hk : Rows.uptoSmall H l = true) : Rows.uptoBulkAll l ≤ 1048576 := of_decide_eq_true hk
theorem elSc (H : Type) (enc : TypeId × Value → H) : IntEl H enc Try.prog 30 .u8 32 := intEl_array Try.underlying30 (by kernel_rfl) (by omega) (intEl_int Try.underlying5 (by kernel_rfl))
theorem elInt (H : Type) (enc : TypeId × Value → H) : IntEl H enc Try.prog 3 .i64 1 := intEl_int Try.underlying3 (by kernel_rfl)
theorem okB_row {x : List Int} (hl : x.length = 32) (hw : ∀ y ∈ x, (Lit.int .u8 y).wf = true) : okB x = true := by
  unfold okB
  rw [decide_eq_true hl, Bool.true_and, List.all_eq_true]
  intro b hb
  have := wf_u8 (hw b hb)
  rw [Bool.and_eq_true]
  exact ⟨decide_eq_true this.1, decide_eq_true this.2⟩
theorem okF_row {x : List Int} {len : Nat} (hm : len ≤ 1048576) (hl : x.length = len * 32) (hw : ∀ y ∈ x, (Lit.int .u8 y).wf = true) : okF x = true := by
  unfold okF
  rw [hl, Nat.mul_mod_left, show Nat.ble (len * 32) 1073741824 = true from Nat.ble_eq_true_of_le (by omega)]
  rw [show (Nat.beq 0 0 && true) = true from rfl, Bool.true_and, List.all_eq_true]
  intro b h
  have := wf_u8 (hw b h)
  rw [Bool.and_eq_true]
  exact ⟨decide_eq_true this.1, decide_eq_true this.2⟩
end Go.Proofs.Ytogcijgklnfjjaa

namespace Go.Proofs.Ytogcijgklnfjjaa
open Go Go.Eng
set_option maxRecDepth 100000
set_option linter.unusedVariables false

def f16_0_sh : Shp := { n := 32, lo := 2, slots := [(0, .one (.fix (At.own 0))), (7, .one (.fix (At.own 1000007))), (15, .one (.fix (At.own 1))), (16, .one (.int IntKind.i64)), (17, .one (.int IntKind.i64))], items := [(1000007, .row (RK.mix ck43) 33), (0, .view (RK.one IntKind.u8) 32), (1, .view (RK.one IntKind.i64) 1)] }
def f16_0_ex1 : Shp := { n := 32, lo := 2, slots := [(18, .one (.bool)), (0, .one (.fix (At.own 0))), (7, .one (.fix (At.own 1000007))), (15, .one (.fix (At.own 1))), (16, .one (.int IntKind.i64)), (17, .one (.int IntKind.i64))], items := [(1000007, .row (RK.mix ck43) 33), (0, .view (RK.one IntKind.u8) 32), (1, .view (RK.one IntKind.i64) 1)] }
noncomputable def f16_0_st {R : Type} (N : Nat) (self : Int → Int → List Int → List Int → List Int → Option R) (k1 : Bool → Int → Int → List Int → List Int → List Int → Option R) (x1 : Int) (x2 : Int) (x3 : List Int) (x4 : List Int) (x5 : List Int) : Option R :=
 bif Decidable.decide (x2 < x1) then
 bif Decidable.decide (0 ≤ x2) && Decidable.decide (x2 < nI (rowLen 1 x5)) then
 bif okF x4 && okB (sN (plN (x5.getD (mulE x2.toNat 1) 0))) then
 let v0 : List Int := sN (evN x4 (vS (sN (plN (x5.getD (mulE x2.toNat 1) 0))))) ++ [];
 let v1 : List Int := x5.getD (mulE x2.toNat 1) 0 :: v0 ++ [];
 bif ((2 * (rowLen 33 x3 + rowLen 33 v1) + 192) * 40).ble big48 && (rowLen 33 x3 + rowLen 33 v1).ble big48 then
 let v2 : Int := IntKind.i64.wrap (x2 + 1);
 let v3 : List Int := x3 ++ v1;
 self x1 v2 v3 x4 x5
 else Option.none
 else Option.none
 else Option.none
else k1 (Decidable.decide (x2 < x1)) x1 x2 x3 x4 x5
noncomputable def f16_0_lp {R : Type} (N : Nat) (k1 : Bool → Int → Int → List Int → List Int → List Int → Option R) : Nat → Int → Int → List Int → List Int → List Int → Option R
 | 0, _, _, _, _, _ => none
 | n + 1, x1, x2, x3, x4, x5 => f16_0_st N (f16_0_lp N k1 n) k1 x1 x2 x3 x4 x5
noncomputable def f16_0_F (N : Nat) : (R : Type) → List Leaf → (X → AS → Option R) → Option R := fun _ ls K => match ls with
 | [.i x1, .i x2, .l x3, .l x4, .l x5] => f16_0_lp N (fun y1 y2 y3 y4 y5 y6 => K (X.normal) (fill f16_0_ex1 [.b y1, .i y2, .i y3, .l y4, .l y5, .l y6])) N x1 x2 x3 x4 x5
 | _ => none
noncomputable def f16_raw {R : Type} (N : Nat) (xs : List Int) (ids : List Int) (k : List DV → Option R) : Option R :=
 bif ids.length.ble 1073741824 then bif idsN ids != 0 then k [DV.lst (RK.mix ck43) 33 [], DV.v (SV.one (At.int IntKind.i64 (idsN ids)))] else f16_0_lp N (fun w0_1 w0_2 w0_3 w0_4 w0_5 w0_6 => k [DV.lst (RK.mix ck43) 33 w0_4, DV.v (SV.one (At.int IntKind.i64 0))]) N (nI (rowLen 1 ids)) 0 [] xs ids else Option.none


noncomputable def E16 (N : Nat) : Env := { Θ := Th, Γ := GT2, K := K16, ν := N16, fuel := 0, lp := [(0, mkL N16_0 f16_0_sh (f16_0_F N))] }

theorem f16_0_st_eq {R : Type} (N : Nat) (K : X → AS → Option R) (n : Nat) (x1 : Int) (x2 : Int) (x3 : List Int) (x4 : List Int) (x5 : List Int) : roundsOf (E16 N) N16_0 0 B16_0 K (n + 1) (fill f16_0_sh [.i x1, .i x2, .l x3, .l x4, .l x5]) = f16_0_st N (fun x1 x2 x3 x4 x5 => roundsOf (E16 N) N16_0 0 B16_0 K n (fill f16_0_sh [.i x1, .i x2, .l x3, .l x4, .l x5])) (fun y1 y2 y3 y4 y5 y6 => K (X.normal) (fill f16_0_ex1 [.b y1, .i y2, .i y3, .l y4, .l y5, .l y6])) x1 x2 x3 x4 x5 := by kernel_rfl
theorem f16_0_lp_eq {R : Type} (N : Nat) (K : X → AS → Option R) : ∀ (n : Nat) (x1 : Int) (x2 : Int) (x3 : List Int) (x4 : List Int) (x5 : List Int), roundsOf (E16 N) N16_0 0 B16_0 K n (fill f16_0_sh [.i x1, .i x2, .l x3, .l x4, .l x5]) = f16_0_lp N (fun y1 y2 y3 y4 y5 y6 => K (X.normal) (fill f16_0_ex1 [.b y1, .i y2, .i y3, .l y4, .l y5, .l y6])) n x1 x2 x3 x4 x5
  | 0, _, _, _, _, _ => rfl
  | n + 1, x1, x2, x3, x4, x5 => by
    rw [f16_0_st_eq, f16_0_lp, show (fun x1 x2 x3 x4 x5 => roundsOf (E16 N) N16_0 0 B16_0 K n (fill f16_0_sh [.i x1, .i x2, .l x3, .l x4, .l x5])) = f16_0_lp N (fun y1 y2 y3 y4 y5 y6 => K (X.normal) (fill f16_0_ex1 [.b y1, .i y2, .i y3, .l y4, .l y5, .l y6])) n from by funext x1 x2 x3 x4 x5; exact f16_0_lp_eq N K n x1 x2 x3 x4 x5]
theorem f16_0_ok (N : Nat) (hlp : LoopsOk Try.prog (E16 N).lp B16_0) (hΓ : CtxOk Try.prog (E16 N).Γ) : LoopOk Try.prog (mkL N16_0 f16_0_sh (f16_0_F N)) 0 B16_0 := by
  refine loopOk_of (E := E16 N) thOk hΓ mixed hlp ?_
  intro R ls K r h
  unfold f16_0_F at h
  split at h
  · exact ⟨N, by rw [f16_0_lp_eq]; exact h⟩
  · cases h

theorem lok16_0 (N : Nat) (hΓ : CtxOk Try.prog GT2) : LoopOk Try.prog (mkL N16_0 f16_0_sh (f16_0_F N)) 0 B16_0 := f16_0_ok N (loopsOk_of (l := []) (by kernel_rfl) trivial) hΓ
theorem f16_contract (N : Nat) (hΓ : CtxOk Try.prog GT2) : Contract Try.prog 16 { sig := S16, impl := fun _ ds k => call (E16 N) S16 32 B16 R16 ds k } :=
  call_contract (E := E16 N) thOk hΓ mixed ok16.look ok16.body ok16.n ok16.rv ok16.name rfl (by decide) (loopsOk_of (l := [(0, B16_0)]) (by kernel_rfl) (allOk_cons (L := mkL N16_0 f16_0_sh (f16_0_F N)) rfl (lok16_0 N hΓ) trivial))
theorem f16_raw_eq {R : Type} (N : Nat) (xs : List Int) (ids : List Int) (k : List DV → Option R) : call (E16 N) S16 32 B16 R16 [.lst (.one .u8) 32 xs, .lst (.one .i64) 1 ids] k = f16_raw N xs ids k := by kernel_rfl
end Go.Proofs.Ytogcijgklnfjjaa

namespace Go.Proofs.Ytogcijgklnfjjaa
open Go Go.Eng
set_option maxRecDepth 100000
set_option linter.unusedVariables false

theorem plN_lt (x : Int) : plN x < ell := by
  have h : plN x < 18446744073709551616 := by
    unfold plN IntKind.wrap
    simp only [IntKind.bits, IntKind.signed, Bool.false_and, Bool.false_eq_true, if_false, show (2 : Int) ^ 64 = 18446744073709551616 by decide]
    omega
  rw [ell_def]; omega
theorem headG_lenK {g : Nat → List Int} {K : Nat} (hg : ∀ i, (g i).length = K) : ∀ n, (headG g n).length = n * K
  | 0 => by simp [headG]
  | n + 1 => by rw [headG, List.length_append, headG_lenK hg n, hg, Nat.succ_mul]
theorem headG_split (g : Nat → List Int) {i : Nat} : ∀ {n}, i < n → ∃ C, headG g n = headG g i ++ (g i ++ C)
  | n + 1, h => by
    by_cases e : i = n
    · subst e; exact ⟨[], by rw [List.append_nil]; rfl⟩
    · obtain ⟨C, hC⟩ := headG_split g (i := i) (n := n) (by omega)
      exact ⟨C ++ g n, by show headG g n ++ g n = _; rw [hC]; simp [List.append_assoc]⟩
noncomputable def shG (d : Nat → Int) (f : Nat → Nat) (n : Nat) : List Int := headG (fun i => d i :: sN (f i)) n
theorem shG_len (d : Nat → Int) (f : Nat → Nat) (n : Nat) : (shG d f n).length = n * 33 := headG_lenK (fun i => by rw [List.length_cons, sN_len]) n
theorem shG_div (d : Nat → Int) (f : Nat → Nat) (n : Nat) : (shG d f n).length / 33 = n := by rw [shG_len]; omega
theorem shG_rows (d : Nat → Int) (f : Nat → Nat) (n : Nat) : nI (rowLen 33 (shG d f n)) = (n : Int) := by
  show ((((shG d f n).length / 33 : Nat)) : Int) = _
  rw [shG_div]
theorem shG_row (d : Nat → Int) (f : Nat → Nat) {i n : Nat} (h : i < n) : ∃ C, (shG d f n).drop (i * 33) = d i :: (sN (f i) ++ C) := by
  obtain ⟨C, hC⟩ := headG_split (fun i => d i :: sN (f i)) h
  refine ⟨C, ?_⟩
  unfold shG
  rw [hC, List.drop_left' (headG_lenK (fun i => by rw [List.length_cons, sN_len]) i)]; rfl
theorem shG_id (d : Nat → Int) (f : Nat → Nat) {i n : Nat} (h : i < n) : (shG d f n).getD (i * 33) 0 = d i := by
  obtain ⟨C, hC⟩ := shG_row d f h
  have : ((shG d f n).drop (i * 33)).getD 0 0 = d i := by rw [hC]; rfl
  rw [List.getD_eq_getElem?_getD, List.getElem?_drop, Nat.add_zero] at this
  rw [List.getD_eq_getElem?_getD]; exact this
theorem shG_val (d : Nat → Int) (f : Nat → Nat) {i n : Nat} (h : i < n) : List.take 32 (List.drop (i * 33 + 1) (shG d f n)) = sN (f i) := by
  obtain ⟨C, hC⟩ := shG_row d f h
  rw [← List.drop_drop, hC]
  show List.take 32 (sN (f i) ++ C) = _
  rw [List.take_left' (sN_len _)]
theorem f16_loop {R : Type} {N : Nat} (k1 : Bool → Int → Int → List Int → List Int → List Int → Option R) {xs ids : List Int} {n : Nat} (hx : okF xs = true) (hn : ids.length = n) (hb : n ≤ 1073741823) :
    ∀ j i : Nat, i + j = n → ∀ fuel, j < fuel → f16_0_lp N k1 fuel (n : Int) (i : Int) (shG (fun i => ids.getD i 0) (fun i => evN xs (plN (ids.getD i 0))) i) xs ids =
      k1 false (n : Int) (n : Int) (shG (fun i => ids.getD i 0) (fun i => evN xs (plN (ids.getD i 0))) n) xs ids := by
  intro j
  induction j with
  | zero =>
    intro i h fuel hf
    obtain ⟨f, rfl⟩ : ∃ f, fuel = f + 1 := ⟨fuel - 1, by omega⟩
    show f16_0_st N (f16_0_lp N _ f) _ _ _ _ _ _ = _
    unfold f16_0_st
    rw [ltF (by omega), cond_false, show i = n by omega]
  | succ j ih =>
    intro i h fuel hf
    obtain ⟨f, rfl⟩ : ∃ f, fuel = f + 1 := ⟨fuel - 1, by omega⟩
    show f16_0_st N (f16_0_lp N _ f) _ _ _ _ _ _ = _
    unfold f16_0_st
    rw [rows1, hn, ltT (show i < n by omega), ge0, show mulE (Int.toNat (i : Int)) 1 = i from rfl, hx, okB_sN, vS_sN (plN_lt _)]
    dsimp only
    rw [List.append_nil]
    have e1 : rowLen 33 (shG (fun i => ids.getD i 0) (fun i => evN xs (plN (ids.getD i 0))) i) = i := shG_div _ _ _
    have e2 : rowLen 33 (ids.getD i 0 :: (sN (evN xs (plN (ids.getD i 0))) ++ [])) = 1 := by
      show (ids.getD i 0 :: (sN (evN xs (plN (ids.getD i 0))) ++ [])).length / 33 = 1
      rw [List.append_nil, List.length_cons, sN_len]
    have hle : (Nat.ble ((2 * (i + 1) + 192) * 40) big48 && Nat.ble (i + 1) big48) = true := by
      rw [Bool.and_eq_true, Nat.ble_eq, Nat.ble_eq]; unfold big48; omega
    rw [e1, e2, hle, wAdd (by omega), List.append_nil]
    simp only [Bool.and_self, cond_true]
    exact ih (i + 1) (by omega) f (by omega)
noncomputable def splitG (xs ids : List Int) : List Int := shG (fun i => ids.getD i 0) (fun i => evN xs (plN (ids.getD i 0))) ids.length
noncomputable def I16 : (R : Type) → List DV → (List DV → Option R) → Option R := fun _ ds k => match ds with
  | [.lst (.one .u8) 32 xs, .lst (.one .i64) 1 ids] => bif okF xs && Nat.ble ids.length 1073741823 then (bif decide (idsN ids = 0) then k [.lst (.mix ck43) 33 (splitG xs ids), .v (.one (.int .i64 0))] else k [.lst (.mix ck43) 33 [], .v (.one (.int .i64 (idsN ids)))]) else none
  | _ => none
theorem c16 : Contract Try.prog 16 { sig := S16, impl := I16 } := by
  refine Contract.refine fun R ds k r h => ?_
  unfold I16 at h
  split at h
  · rename_i xs ids
    refine ⟨_, f16_contract (ids.length + 1) GT2_ok, ?_⟩
    cases hc : okF xs && Nat.ble ids.length 1073741823 with
    | false => rw [hc] at h; cases h
    | true =>
      rw [hc, cond_true] at h
      rw [Bool.and_eq_true] at hc
      have hb := Nat.le_of_ble_eq_true hc.2
      rw [f16_raw_eq]
      unfold f16_raw
      rw [show Nat.ble ids.length 1073741824 = true from Nat.ble_eq_true_of_le (by omega), cond_true]
      by_cases h0 : idsN ids = 0
      · rw [decide_eq_true h0, cond_true] at h
        rw [h0, show ((0 : Int) != 0) = false from rfl, cond_false]
        exact (f16_loop (N := ids.length + 1) _ hc.1 rfl hb ids.length 0 (by omega) (ids.length + 1) (by omega)).trans h
      · rw [decide_eq_false h0, cond_false] at h
        rw [show (idsN ids != 0) = true by simpa using h0, cond_true]
        exact h
  · exact (Option.some_ne_none _ h.symm).elim
end Go.Proofs.Ytogcijgklnfjjaa

namespace Go.Proofs.Ytogcijgklnfjjaa
open Go Go.Eng
set_option maxRecDepth 100000
set_option linter.unusedVariables false

instance : NeZero ell := ⟨by have := ell_pos; omega⟩
abbrev Q := Fin ell
def q (n : Nat) : Q := Fin.ofNat ell n
theorem q_eq {a b : Nat} : q a = q b ↔ a % ell = b % ell := by
  constructor
  · intro h; have := congrArg Fin.val h; exact this
  · intro h; exact Fin.ext h
theorem q_inj {a b : Nat} (ha : a < ell) (hb : b < ell) (h : q a = q b) : a = b := by
  have := q_eq.1 h
  rwa [Nat.mod_eq_of_lt ha, Nat.mod_eq_of_lt hb] at this
theorem q_mod (a : Nat) : q (a % ell) = q a := q_eq.2 (Nat.mod_mod _ _)
theorem q_add' (a b : Nat) : q (a + b) = q a + q b := Fin.ext (by
  show (a + b) % ell = (a % ell + b % ell) % ell
  rw [← Nat.add_mod])
theorem q_mul' (a b : Nat) : q (a * b) = q a * q b := Fin.ext (by
  show (a * b) % ell = (a % ell * (b % ell)) % ell
  rw [← Nat.mul_mod])
theorem q_zero : q 0 = 0 := rfl
theorem q_add (a b : Nat) : q (addN a b) = q a + q b := by rw [addN_def, q_mod, q_add']
theorem q_mul (a b : Nat) : q (mulN a b) = q a * q b := by rw [mulN_def, q_mod, q_mul']
noncomputable def ev : Nat → (Nat → Q) → Q → Q
  | 0, _, _ => 0
  | n + 1, c, x => c 0 + x * ev n (fun i => c (i + 1)) x
noncomputable def pw (x : Q) : Nat → Q
  | 0 => 1
  | n + 1 => x * pw x n
theorem ev_congr : ∀ {n : Nat} {c d : Nat → Q} {x : Q}, (∀ i, i < n → c i = d i) → ev n c x = ev n d x
  | 0, _, _, _, _ => rfl
  | n + 1, c, d, x, h => by
    unfold ev
    rw [h 0 (by omega), ev_congr (n := n) (c := fun i => c (i + 1)) (d := fun i => d (i + 1)) fun i hi => h (i + 1) (by omega)]
theorem ev_add : ∀ (n : Nat) (c d : Nat → Q) (x : Q), ev n (fun i => c i + d i) x = ev n c x + ev n d x
  | 0, _, _, _ => by unfold ev; grind
  | n + 1, c, d, x => by
    unfold ev
    rw [ev_add n (fun i => c (i + 1)) (fun i => d (i + 1)) x]; grind
theorem ev_smul : ∀ (n : Nat) (a : Q) (c : Nat → Q) (x : Q), ev n (fun i => a * c i) x = a * ev n c x
  | 0, _, _, _ => by unfold ev; grind
  | n + 1, a, c, x => by
    unfold ev
    rw [ev_smul n a (fun i => c (i + 1)) x]; grind
theorem ev_snoc : ∀ (n : Nat) (c : Nat → Q) (x : Q), ev (n + 1) c x = ev n c x + c n * pw x n
  | 0, c, x => by unfold ev ev pw; grind
  | n + 1, c, x => by
    have ih := ev_snoc n (fun i => c (i + 1)) x
    have e1 : ev (n + 2) c x = c 0 + x * ev (n + 1) (fun i => c (i + 1)) x := rfl
    have e2 : ev (n + 1) c x = c 0 + x * ev n (fun i => c (i + 1)) x := rfl
    have e3 : pw x (n + 1) = x * pw x n := rfl
    rw [e1, e2, e3, ih]; grind
theorem ev_ext (c : Nat → Q) (x : Q) (n : Nat) : ∀ m, (∀ i, n ≤ i → i < n + m → c i = 0) → ev (n + m) c x = ev n c x
  | 0, _ => rfl
  | m + 1, h => by
    rw [show n + (m + 1) = (n + m) + 1 from rfl, ev_snoc, ev_ext c x n m fun i h1 h2 => h i h1 (by omega), h (n + m) (by omega) (by omega)]; grind

noncomputable def quo : Nat → (Nat → Q) → Q → Nat → Q
  | 0, _, _, _ => 0
  | n + 1, c, s, 0 => ev (n + 1) (fun i => c (i + 1)) s
  | n + 1, c, s, i + 1 => quo n (fun i => c (i + 1)) s i
end Go.Proofs.Ytogcijgklnfjjaa

namespace Go.Proofs.Ytogcijgklnfjjaa
open Go Go.Eng
set_option maxRecDepth 100000

def elC : Nat := 7237005577332262213973186563042994240857116359379907606001950938285454250989
theorem ell_elC : ell = elC := ell_def
def sC (v : Nat) : List Int := nats (digs 256 32 v)
theorem sN_sC (v : Nat) : sN v = sC v := sN_def v
def vC (x : List Int) : Nat := numB x % elC
theorem vS_vC (x : List Int) : vS x = vC x := by rw [vS_def, ell_elC]; rfl
def pwC : Nat → Nat → Nat → Nat
  | 0, _, _ => 1
  | n + 1, b, e => bif Nat.beq (e % 2) 1 then b * pwC n (b * b % elC) (e / 2) % elC else pwC n (b * b % elC) (e / 2)
theorem pwC_eq : ∀ (n b e : Nat), e < 2 ^ n → pwC n b e % elC = b ^ e % elC
  | 0, b, e, h => by
    have : e = 0 := by simp at h; exact h
    subst this; rfl
  | n + 1, b, e, h => by
    have ih := pwC_eq n (b * b % elC) (e / 2) (by rw [Nat.pow_succ] at h; omega)
    have e1 : (b * b % elC) ^ (e / 2) % elC = b ^ (2 * (e / 2)) % elC := by
      rw [← Nat.pow_mod, ← Nat.pow_two, ← Nat.pow_mul]
    unfold pwC
    have h2 := Nat.mod_two_eq_zero_or_one e
    cases hb : Nat.beq (e % 2) 1 with
    | true =>
      have h3 := Nat.eq_of_beq_eq_true hb
      rw [cond_true, Nat.mod_mod, Nat.mul_mod, ih, e1, ← Nat.mul_mod]
      have : e = 2 * (e / 2) + 1 := by omega
      rw [show b * b ^ (2 * (e / 2)) = b ^ (2 * (e / 2) + 1) by rw [Nat.pow_succ, Nat.mul_comm], ← this]
    | false =>
      have h3 : e % 2 ≠ 1 := fun q => by rw [q] at hb; cases hb
      rw [cond_false, ih, e1]
      have : e = 2 * (e / 2) := by omega
      rw [← this]
def inC (a : Nat) : Nat := pwC 256 a 7237005577332262213973186563042994240857116359379907606001950938285454250987 % elC
theorem invN_inC (a : Nat) : invN a = inC a := by
  rw [invN_def, powN_def, ell_elC]
  exact (pwC_eq 256 a _ (by decide +kernel)).symm

def adC (a b : Nat) : Nat := (a + b) % elC
def ngC (a : Nat) : Nat := (elC - a) % elC
def mlC (a b : Nat) : Nat := a * b % elC
theorem addN_adC (a b : Nat) : addN a b = adC a b := by rw [addN_def, ell_elC]; rfl
theorem negN_ngC (a : Nat) : negN a = ngC a := by rw [negN_def, ell_elC]; rfl
theorem mulN_mlC (a b : Nat) : mulN a b = mlC a b := by rw [mulN_def, ell_elC]; rfl
theorem difN_C (a b : Nat) : difN a b = adC a (ngC b) := by unfold difN; rw [addN_adC, negN_ngC]

def C30 : (R : Type) → List DV → (List DV → Option R) → Option R := fun _ ds k => match ds with
  | [.v (.one (.ints .u8 32 x)), .v (.one (.ints .u8 32 y))] => bif okB x && okB y then k [.v (.one (.ints .u8 32 (sC (adC (vC x) (vC y)))))] else none
  | _ => none
def C32 : (R : Type) → List DV → (List DV → Option R) → Option R := fun _ ds k => match ds with
  | [.v (.one (.ints .u8 32 x)), .v (.one (.ints .u8 32 y))] => bif okB x && okB y then k [.v (.one (.ints .u8 32 (sC (adC (vC x) (ngC (vC y))))))] else none
  | _ => none
def C33 : (R : Type) → List DV → (List DV → Option R) → Option R := fun _ ds k => match ds with
  | [.v (.one (.ints .u8 32 x)), .v (.one (.ints .u8 32 y))] => bif okB x && okB y then k [.v (.one (.ints .u8 32 (sC (mlC (vC x) (vC y)))))] else none
  | _ => none
def C42 : (R : Type) → List DV → (List DV → Option R) → Option R := fun _ ds k => match ds with
  | [.v (.one (.ints .u8 32 x)), .v (.one (.ints .u8 32 y)), .v (.one (.ints .u8 32 z))] => bif okB x && okB y && okB z then k [.v (.one (.ints .u8 32 (sC (adC (mlC (vC x) (vC y)) (vC z)))))] else none
  | _ => none
def C71 : (R : Type) → List DV → (List DV → Option R) → Option R := fun _ ds k => match ds with
  | [.v (.one (.ints .u8 32 x))] => bif okB x then k [.v (.one (.ints .u8 32 (sC (ngC (vC x)))))] else none
  | _ => none
def C88 : (R : Type) → List DV → (List DV → Option R) → Option R := fun _ ds k => match ds with
  | [.v (.one (.ints .u8 32 x))] => bif okB x then k [.v (.one (.bool (Nat.beq (vC x) 0)))] else none
  | _ => none
def C31 : (R : Type) → List DV → (List DV → Option R) → Option R := fun _ ds k => match ds with
  | [.v (.one (.ints .u8 32 x))] => bif okB x then (bif Nat.beq (vC x) 0 then k [.v (.one (.ints .u8 32 (List.replicate 32 0))), .v (.one (.int .i64 9))] else k [.v (.one (.ints .u8 32 (sC (inC (vC x))))), .v (.one (.int .i64 0))]) else none
  | _ => none
def C40 : (R : Type) → List DV → (List DV → Option R) → Option R := fun _ ds k => match ds with
  | [.v (.one (.int .i64 x))] => k [.v (.one (.ints .u8 32 (sC (IntKind.u64.wrap x).toNat)))]
  | _ => none

theorem beq_dec (a : Nat) : Nat.beq a 0 = decide (a = 0) := by cases a <;> rfl
theorem cC30 : Contract Try.prog 30 { sig := S30, impl := C30 } := by
  refine Contract.refine fun R ds k r h => ⟨_, c30, ?_⟩
  unfold C30 at h
  unfold I30
  split at h
  · simp only [sN_sC, addN_adC, vS_vC]; exact h
  · cases h
theorem cC32 : Contract Try.prog 32 { sig := S32, impl := C32 } := by
  refine Contract.refine fun R ds k r h => ⟨_, c32, ?_⟩
  unfold C32 at h
  unfold I32
  split at h
  · simp only [sN_sC, difN_C, vS_vC]; exact h
  · cases h
theorem cC33 : Contract Try.prog 33 { sig := S33, impl := C33 } := by
  refine Contract.refine fun R ds k r h => ⟨_, c33, ?_⟩
  unfold C33 at h
  unfold I33
  split at h
  · simp only [sN_sC, mulN_mlC, vS_vC]; exact h
  · cases h
theorem cC42 : Contract Try.prog 42 { sig := S42, impl := C42 } := by
  refine Contract.refine fun R ds k r h => ⟨_, c42, ?_⟩
  unfold C42 at h
  unfold I42
  split at h
  · simp only [sN_sC, mulN_mlC, addN_adC, vS_vC]; exact h
  · cases h
theorem cC71 : Contract Try.prog 71 { sig := S71, impl := C71 } := by
  refine Contract.refine fun R ds k r h => ⟨_, c71, ?_⟩
  unfold C71 at h
  unfold I71
  split at h
  · simp only [sN_sC, negN_ngC, vS_vC]; exact h
  · cases h
theorem cC88 : Contract Try.prog 88 { sig := S88, impl := C88 } := by
  refine Contract.refine fun R ds k r h => ⟨_, c88, ?_⟩
  unfold C88 at h
  unfold I88
  split at h
  · simp only [vS_vC, ← beq_dec]; exact h
  · cases h
theorem cC31 : Contract Try.prog 31 { sig := S31, impl := C31 } := by
  refine Contract.refine fun R ds k r h => ⟨_, c31, ?_⟩
  unfold C31 at h
  unfold I31
  split at h
  · simp only [sN_sC, invN_inC, vS_vC, ← beq_dec]; exact h
  · cases h
theorem cC40 : Contract Try.prog 40 { sig := S40, impl := C40 } := by
  refine Contract.refine fun R ds k r h => ⟨_, c40, ?_⟩
  unfold C40 at h
  unfold I40
  split at h
  · simp only [sN_sC, plN]; exact h
  · cases h

def hzC (x : List Int) : Nat → Nat → Bool
  | 0, _ => false
  | j + 1, i => bif Nat.beq (vC (elF x i)) 0 then true else hzC x j (i + 1)
theorem hzC_eq (x : List Int) : ∀ j i, (fz x j i).isSome = hzC x j i
  | 0, _ => rfl
  | j + 1, i => by
    unfold fz hzC
    rw [vS_vC, beq_dec]
    by_cases h : vC (elF x i) = 0
    · rw [if_pos h, decide_eq_true h]; rfl
    · rw [if_neg h, decide_eq_false h]; exact hzC_eq x j (i + 1)
def C77 : (R : Type) → List DV → (List DV → Option R) → Option R := fun _ ds k => match ds with
  | [.lst (.one .u8) 32 x] => bif okF x && !(hzC x (x.length / 32) 0) then k [.lst (.one .u8) 32 (headG (fun i => sC (inC (vC (elF x i)))) (x.length / 32)), .v (.one (.int .i64 0)), .v (.one (.int .i64 0))] else none
  | _ => none
theorem cC77 : Contract Try.prog 77 { sig := S77, impl := C77 } := by
  refine Contract.refine fun R ds k r h => ⟨_, c77b, ?_⟩
  unfold C77 at h
  unfold I77b
  split at h
  · rename_i x
    cases hc : okF x && !(hzC x (x.length / 32) 0) with
    | false => rw [hc] at h; cases h
    | true =>
      rw [hc, cond_true] at h
      rw [Bool.and_eq_true, Bool.not_eq_true'] at hc
      have e : hasZ x = false := by unfold hasZ; rw [hzC_eq]; exact hc.2
      have e2 : invS x = headG (fun i => sC (inC (vC (elF x i)))) (x.length / 32) := by
        unfold invS; simp only [sN_sC, invN_inC, vS_vC]
      show (bif okF x then (bif hasZ x then _ else _) else none) = some r
      rw [hc.1, e, e2]; exact h
  · cases h
def dtC (x y : List Int) : Nat → Nat
  | 0 => 0
  | i + 1 => adC (dtC x y i) (mlC (vC (elF x i)) (vC (elF y i)))
theorem dotF_dtC (x y : List Int) : ∀ i, dotF x y i = dtC x y i
  | 0 => rfl
  | i + 1 => by unfold dotF dtC; rw [addN_adC, mulN_mlC, vS_vC, vS_vC, dotF_dtC x y i]
def C76 : (R : Type) → List DV → (List DV → Option R) → Option R := fun _ ds k => match ds with
  | [.lst (.one .u8) 32 x, .lst (.one .u8) 32 y] => bif okF x && okF y then (bif Nat.beq (x.length / 32) (y.length / 32) then k [.v (.one (.ints .u8 32 (sC (dtC x y (x.length / 32))))), .v (.one (.int .i64 0))] else none) else none
  | _ => none
theorem cC76 : Contract Try.prog 76 { sig := S76, impl := C76 } := by
  refine Contract.refine fun R ds k r h => ⟨_, c76, ?_⟩
  unfold C76 at h
  unfold I76
  split at h
  · rename_i x y
    cases hc : okF x && okF y with
    | false => rw [hc] at h; cases h
    | true =>
      rw [hc, cond_true] at h
      cases he : Nat.beq (x.length / 32) (y.length / 32) with
      | false => rw [he] at h; cases h
      | true =>
        rw [he, cond_true] at h
        simp only [hc, he, cond_true, dotF_dtC, sN_sC]; exact h
  · cases h
def GC : Ctx := [(76, { sig := S76, impl := C76 }), (77, { sig := S77, impl := C77 }), (30, { sig := S30, impl := C30 }), (31, { sig := S31, impl := C31 }), (32, { sig := S32, impl := C32 }), (33, { sig := S33, impl := C33 }), (40, { sig := S40, impl := C40 }), (42, { sig := S42, impl := C42 }), (71, { sig := S71, impl := C71 }), (88, { sig := S88, impl := C88 })]
theorem GC_ok : CtxOk Try.prog GC := ctxOk_cons ok76 rfl cC76 (ctxOk_cons ok77 rfl cC77 (ctxOk_cons ok30 rfl cC30 (ctxOk_cons ok31 rfl cC31 (ctxOk_cons ok32 rfl cC32 (ctxOk_cons ok33 rfl cC33 (ctxOk_cons ok40 rfl cC40 (ctxOk_cons ok42 rfl cC42 (ctxOk_cons ok71 rfl cC71 (ctxOk_cons ok88 rfl cC88 ctxOk_nil)))))))))
end Go.Proofs.Ytogcijgklnfjjaa

namespace Go.Proofs.Ytogcijgklnfjjaa
open Go Go.Eng
set_option maxRecDepth 100000

noncomputable def AE12 : Env := { Θ := Th, Γ := GC, K := K12, ν := [], fuel := 64, lp := [] }
theorem al12 : Contract Try.prog 12 { sig := S12, impl := fun _ ds k => call AE12 S12 4 B12 R12 ds k } :=
  call_contract (E := AE12) thOk GC_ok mixed ok12.look ok12.body ok12.n ok12.rv ok12.name rfl (by decide) (loopsOk_of (l := []) (by kernel_rfl) trivial)
noncomputable def GA12 : Ctx := (12, { sig := S12, impl := fun _ ds k => call AE12 S12 4 B12 R12 ds k }) :: GC
theorem GA12_ok : CtxOk Try.prog GA12 := ctxOk_cons ok12 rfl al12 GC_ok

noncomputable def AE43 : Env := { Θ := Th, Γ := GA12, K := K43, ν := [], fuel := 64, lp := [] }
theorem al43 : Contract Try.prog 43 { sig := S43, impl := fun _ ds k => call AE43 S43 9 B43 R43 ds k } :=
  call_contract (E := AE43) thOk GA12_ok mixed ok43.look ok43.body ok43.n ok43.rv ok43.name rfl (by decide) (loopsOk_of (l := []) (by kernel_rfl) trivial)
noncomputable def GA43 : Ctx := (43, { sig := S43, impl := fun _ ds k => call AE43 S43 9 B43 R43 ds k }) :: GA12
theorem GA43_ok : CtxOk Try.prog GA43 := ctxOk_cons ok43 rfl al43 GA12_ok

noncomputable def AE70 : Env := { Θ := Th, Γ := GA43, K := K70, ν := [], fuel := 64, lp := [] }
theorem al70 : Contract Try.prog 70 { sig := S70, impl := fun _ ds k => call AE70 S70 9 B70 R70 ds k } :=
  call_contract (E := AE70) thOk GA43_ok mixed ok70.look ok70.body ok70.n ok70.rv ok70.name rfl (by decide) (loopsOk_of (l := []) (by kernel_rfl) trivial)
noncomputable def GA70 : Ctx := (70, { sig := S70, impl := fun _ ds k => call AE70 S70 9 B70 R70 ds k }) :: GA43
theorem GA70_ok : CtxOk Try.prog GA70 := ctxOk_cons ok70 rfl al70 GA43_ok

noncomputable def AE108 : Env := { Θ := Th, Γ := GA70, K := K108, ν := [], fuel := 64, lp := [] }
theorem al108 : Contract Try.prog 108 { sig := S108, impl := fun _ ds k => call AE108 S108 6 B108 R108 ds k } :=
  call_contract (E := AE108) thOk GA70_ok mixed ok108.look ok108.body ok108.n ok108.rv ok108.name rfl (by decide) (loopsOk_of (l := []) (by kernel_rfl) trivial)
noncomputable def GA108 : Ctx := (108, { sig := S108, impl := fun _ ds k => call AE108 S108 6 B108 R108 ds k }) :: GA70
theorem GA108_ok : CtxOk Try.prog GA108 := ctxOk_cons ok108 rfl al108 GA70_ok

noncomputable def AE97 : Env := { Θ := Th, Γ := GA108, K := K97, ν := [], fuel := 64, lp := [] }
theorem al97 : Contract Try.prog 97 { sig := S97, impl := fun _ ds k => call AE97 S97 17 B97 R97 ds k } :=
  call_contract (E := AE97) thOk GA108_ok mixed ok97.look ok97.body ok97.n ok97.rv ok97.name rfl (by decide) (loopsOk_of (l := []) (by kernel_rfl) trivial)
noncomputable def GA97 : Ctx := (97, { sig := S97, impl := fun _ ds k => call AE97 S97 17 B97 R97 ds k }) :: GA108
theorem GA97_ok : CtxOk Try.prog GA97 := ctxOk_cons ok97 rfl al97 GA108_ok

noncomputable def AE91 : Env := { Θ := Th, Γ := GA97, K := K91, ν := [(0, ⟨[], []⟩), (2, ⟨[], []⟩)], fuel := 64, lp := [] }
theorem al91 : Contract Try.prog 91 { sig := { ps := [], rs := [] }, impl := fun _ ds k => callN AE91 3 49 B91 R91 ds k, kind := .inl 3 } :=
  inl_contract (E := AE91) thOk GA97_ok mixed ok91 (loopsOk_of (l := [(0, B91_0), (2, B91_2)]) (by kernel_rfl) (allOk_skip rfl (allOk_skip rfl trivial)))
noncomputable def GA91 : Ctx := (91, { sig := { ps := [], rs := [] }, impl := fun _ ds k => callN AE91 3 49 B91 R91 ds k, kind := .inl 3 }) :: GA97
theorem GA91_ok : CtxOk Try.prog GA91 := ctxOk_cons ok91 rfl al91 GA97_ok

noncomputable def AE101 : Env := { Θ := Th, Γ := GA91, K := K101, ν := [], fuel := 64, lp := [] }
theorem al101 : Contract Try.prog 101 { sig := S101, impl := fun _ ds k => call AE101 S101 25 B101 R101 ds k } :=
  call_contract (E := AE101) thOk GA91_ok mixed ok101.look ok101.body ok101.n ok101.rv ok101.name rfl (by decide) (loopsOk_of (l := []) (by kernel_rfl) trivial)
noncomputable def GA101 : Ctx := (101, { sig := S101, impl := fun _ ds k => call AE101 S101 25 B101 R101 ds k }) :: GA91
theorem GA101_ok : CtxOk Try.prog GA101 := ctxOk_cons ok101 rfl al101 GA91_ok

noncomputable def AE75 : Env := { Θ := Th, Γ := GA101, K := K75, ν := [], fuel := 64, lp := [] }
theorem al75 : Contract Try.prog 75 { sig := S75, impl := fun _ ds k => call AE75 S75 8 B75 R75 ds k } :=
  call_contract (E := AE75) thOk GA101_ok mixed ok75.look ok75.body ok75.n ok75.rv ok75.name rfl (by decide) (loopsOk_of (l := []) (by kernel_rfl) trivial)
noncomputable def GA75 : Ctx := (75, { sig := S75, impl := fun _ ds k => call AE75 S75 8 B75 R75 ds k }) :: GA101
theorem GA75_ok : CtxOk Try.prog GA75 := ctxOk_cons ok75 rfl al75 GA101_ok

noncomputable def AE74 : Env := { Θ := Th, Γ := GA75, K := K74, ν := [(0, ⟨[], []⟩)], fuel := 64, lp := [] }
theorem al74 : Contract Try.prog 74 { sig := { ps := [], rs := [] }, impl := fun _ ds k => callN AE74 4 134 B74 R74 ds k, kind := .inl 4 } :=
  inl_contract (E := AE74) thOk GA75_ok mixed ok74 (loopsOk_of (l := [(0, B74_0)]) (by kernel_rfl) (allOk_skip rfl trivial))
noncomputable def GA74 : Ctx := (74, { sig := { ps := [], rs := [] }, impl := fun _ ds k => callN AE74 4 134 B74 R74 ds k, kind := .inl 4 }) :: GA75
theorem GA74_ok : CtxOk Try.prog GA74 := ctxOk_cons ok74 rfl al74 GA75_ok

noncomputable def AE46 : Env := { Θ := Th, Γ := GA74, K := K46, ν := [], fuel := 64, lp := [] }
theorem al46 : Contract Try.prog 46 { sig := { ps := [], rs := [] }, impl := fun _ ds k => callN AE46 1 11 B46 R46 ds k, kind := .inl 1 } :=
  inl_contract (E := AE46) thOk GA74_ok mixed ok46 (loopsOk_of (l := []) (by kernel_rfl) trivial)
noncomputable def GA46 : Ctx := (46, { sig := { ps := [], rs := [] }, impl := fun _ ds k => callN AE46 1 11 B46 R46 ds k, kind := .inl 1 }) :: GA74
theorem GA46_ok : CtxOk Try.prog GA46 := ctxOk_cons ok46 rfl al46 GA74_ok

noncomputable def AE39 : Env := { Θ := Th, Γ := GA46, K := K39, ν := [(0, ⟨[], []⟩)], fuel := 64, lp := [] }
theorem al39 : Contract Try.prog 39 { sig := S39, impl := fun _ ds k => call AE39 S39 29 B39 R39 ds k } :=
  call_contract (E := AE39) thOk GA46_ok mixed ok39.look ok39.body ok39.n ok39.rv ok39.name rfl (by decide) (loopsOk_of (l := [(0, B39_0)]) (by kernel_rfl) (allOk_skip rfl trivial))
noncomputable def GA39 : Ctx := (39, { sig := S39, impl := fun _ ds k => call AE39 S39 29 B39 R39 ds k }) :: GA46
theorem GA39_ok : CtxOk Try.prog GA39 := ctxOk_cons ok39 rfl al39 GA46_ok

noncomputable def AE19 : Env := { Θ := Th, Γ := GA39, K := K19, ν := [(0, ⟨[], []⟩)], fuel := 64, lp := [] }
theorem al19 : Contract Try.prog 19 { sig := S19, impl := fun _ ds k => call AE19 S19 22 B19 R19 ds k } :=
  call_contract (E := AE19) thOk GA39_ok mixed ok19.look ok19.body ok19.n ok19.rv ok19.name rfl (by decide) (loopsOk_of (l := [(0, B19_0)]) (by kernel_rfl) (allOk_skip rfl trivial))
noncomputable def GA19 : Ctx := (19, { sig := S19, impl := fun _ ds k => call AE19 S19 22 B19 R19 ds k }) :: GA39
theorem GA19_ok : CtxOk Try.prog GA19 := ctxOk_cons ok19 rfl al19 GA39_ok

noncomputable def AE49 : Env := { Θ := Th, Γ := GA19, K := K49, ν := [(0, ⟨[], []⟩)], fuel := 64, lp := [] }
theorem al49 : Contract Try.prog 49 { sig := S49, impl := fun _ ds k => call AE49 S49 31 B49 R49 ds k } :=
  call_contract (E := AE49) thOk GA19_ok mixed ok49.look ok49.body ok49.n ok49.rv ok49.name rfl (by decide) (loopsOk_of (l := [(0, B49_0)]) (by kernel_rfl) (allOk_skip rfl trivial))
noncomputable def GA49 : Ctx := (49, { sig := S49, impl := fun _ ds k => call AE49 S49 31 B49 R49 ds k }) :: GA19
theorem GA49_ok : CtxOk Try.prog GA49 := ctxOk_cons ok49 rfl al49 GA19_ok

noncomputable def AE16 : Env := { Θ := Th, Γ := GA49, K := K16, ν := [(0, ⟨[], []⟩)], fuel := 64, lp := [] }
theorem al16 : Contract Try.prog 16 { sig := S16, impl := fun _ ds k => call AE16 S16 32 B16 R16 ds k } :=
  call_contract (E := AE16) thOk GA49_ok mixed ok16.look ok16.body ok16.n ok16.rv ok16.name rfl (by decide) (loopsOk_of (l := [(0, B16_0)]) (by kernel_rfl) (allOk_skip rfl trivial))
noncomputable def GA16 : Ctx := (16, { sig := S16, impl := fun _ ds k => call AE16 S16 32 B16 R16 ds k }) :: GA49
theorem GA16_ok : CtxOk Try.prog GA16 := ctxOk_cons ok16 rfl al16 GA49_ok

noncomputable def AE9 : Env := { Θ := Th, Γ := GA16, K := K9, ν := [(0, ⟨[], []⟩), (2, ⟨[], []⟩), (4, ⟨[], []⟩), (6, ⟨[], []⟩), (8, ⟨[], []⟩), (10, ⟨[], []⟩)], fuel := 64, lp := [] }
theorem al9 : Contract Try.prog 9 { sig := S9, impl := fun _ ds k => call AE9 S9 161 B9 R9 ds k } :=
  call_contract (E := AE9) thOk GA16_ok mixed ok9.look ok9.body ok9.n ok9.rv ok9.name rfl (by decide) (loopsOk_of (l := [(0, B9_0), (2, B9_2), (4, B9_4), (6, B9_6), (8, B9_8), (10, B9_10)]) (by kernel_rfl) (allOk_skip rfl (allOk_skip rfl (allOk_skip rfl (allOk_skip rfl (allOk_skip rfl (allOk_skip rfl trivial)))))))
noncomputable def GA9 : Ctx := (9, { sig := S9, impl := fun _ ds k => call AE9 S9 161 B9 R9 ds k }) :: GA16
theorem GA9_ok : CtxOk Try.prog GA9 := ctxOk_cons ok9 rfl al9 GA16_ok

noncomputable def AE47 : Env := { Θ := Th, Γ := GA9, K := K47, ν := [(0, ⟨[], []⟩)], fuel := 64, lp := [] }
theorem al47 : Contract Try.prog 47 { sig := S47, impl := fun _ ds k => call AE47 S47 38 B47 R47 ds k } :=
  call_contract (E := AE47) thOk GA9_ok mixed ok47.look ok47.body ok47.n ok47.rv ok47.name rfl (by decide) (loopsOk_of (l := [(0, B47_0)]) (by kernel_rfl) (allOk_skip rfl trivial))
noncomputable def GA47 : Ctx := (47, { sig := S47, impl := fun _ ds k => call AE47 S47 38 B47 R47 ds k }) :: GA9
theorem GA47_ok : CtxOk Try.prog GA47 := ctxOk_cons ok47 rfl al47 GA9_ok

noncomputable def AE50 : Env := { Θ := Th, Γ := GA47, K := K50, ν := [(0, ⟨[], []⟩), (2, ⟨[], []⟩), (4, ⟨[], []⟩)], fuel := 64, lp := [] }
theorem al50 : Contract Try.prog 50 { sig := S50, impl := fun _ ds k => call AE50 S50 95 B50 R50 ds k } :=
  call_contract (E := AE50) thOk GA47_ok mixed ok50.look ok50.body ok50.n ok50.rv ok50.name rfl (by decide) (loopsOk_of (l := [(0, B50_0), (2, B50_2), (4, B50_4)]) (by kernel_rfl) (allOk_skip rfl (allOk_skip rfl (allOk_skip rfl trivial))))
noncomputable def GA50 : Ctx := (50, { sig := S50, impl := fun _ ds k => call AE50 S50 95 B50 R50 ds k }) :: GA47
theorem GA50_ok : CtxOk Try.prog GA50 := ctxOk_cons ok50 rfl al50 GA47_ok

noncomputable def AE48 : Env := { Θ := Th, Γ := GA50, K := K48, ν := [(0, ⟨[], []⟩)], fuel := 64, lp := [] }
theorem al48 : Contract Try.prog 48 { sig := S48, impl := fun _ ds k => call AE48 S48 37 B48 R48 ds k } :=
  call_contract (E := AE48) thOk GA50_ok mixed ok48.look ok48.body ok48.n ok48.rv ok48.name rfl (by decide) (loopsOk_of (l := [(0, B48_0)]) (by kernel_rfl) (allOk_skip rfl trivial))
noncomputable def GA48 : Ctx := (48, { sig := S48, impl := fun _ ds k => call AE48 S48 37 B48 R48 ds k }) :: GA50
theorem GA48_ok : CtxOk Try.prog GA48 := ctxOk_cons ok48 rfl al48 GA50_ok

noncomputable def AE44 : Env := { Θ := Th, Γ := GA48, K := K44, ν := [], fuel := 64, lp := [] }
theorem al44 : Contract Try.prog 44 { sig := S44, impl := fun _ ds k => call AE44 S44 28 B44 R44 ds k } :=
  call_contract (E := AE44) thOk GA48_ok mixed ok44.look ok44.body ok44.n ok44.rv ok44.name rfl (by decide) (loopsOk_of (l := []) (by kernel_rfl) trivial)
noncomputable def GA44 : Ctx := (44, { sig := S44, impl := fun _ ds k => call AE44 S44 28 B44 R44 ds k }) :: GA48
theorem GA44_ok : CtxOk Try.prog GA44 := ctxOk_cons ok44 rfl al44 GA48_ok

noncomputable def AE24 : Env := { Θ := Th, Γ := GA44, K := K24, ν := [], fuel := 64, lp := [] }
theorem al24 : Contract Try.prog 24 { sig := S24, impl := fun _ ds k => call AE24 S24 29 B24 R24 ds k } :=
  call_contract (E := AE24) thOk GA44_ok mixed ok24.look ok24.body ok24.n ok24.rv ok24.name rfl (by decide) (loopsOk_of (l := []) (by kernel_rfl) trivial)
noncomputable def GA24 : Ctx := (24, { sig := S24, impl := fun _ ds k => call AE24 S24 29 B24 R24 ds k }) :: GA44
theorem GA24_ok : CtxOk Try.prog GA24 := ctxOk_cons ok24 rfl al24 GA44_ok

noncomputable def AE89 : Env := { Θ := Th, Γ := GA24, K := K89, ν := [(0, ⟨[], []⟩), (2, ⟨[], []⟩), (4, ⟨[], []⟩)], fuel := 64, lp := [] }
theorem al89 : Contract Try.prog 89 { sig := { ps := [], rs := [] }, impl := fun _ ds k => callN AE89 3 95 B89 R89 ds k, kind := .inl 3 } :=
  inl_contract (E := AE89) thOk GA24_ok mixed ok89 (loopsOk_of (l := [(0, B89_0), (2, B89_2), (4, B89_4)]) (by kernel_rfl) (allOk_skip rfl (allOk_skip rfl (allOk_skip rfl trivial))))
noncomputable def GA89 : Ctx := (89, { sig := { ps := [], rs := [] }, impl := fun _ ds k => callN AE89 3 95 B89 R89 ds k, kind := .inl 3 }) :: GA24
theorem GA89_ok : CtxOk Try.prog GA89 := ctxOk_cons ok89 rfl al89 GA24_ok

noncomputable def AE72 : Env := { Θ := Th, Γ := GA89, K := K72, ν := [(0, ⟨[], []⟩), (2, ⟨[], []⟩), (4, ⟨[], []⟩), (6, ⟨[], []⟩)], fuel := 64, lp := [] }
theorem al72 : Contract Try.prog 72 { sig := { ps := [], rs := [] }, impl := fun _ ds k => callN AE72 2 100 B72 R72 ds k, kind := .inl 2 } :=
  inl_contract (E := AE72) thOk GA89_ok mixed ok72 (loopsOk_of (l := [(0, B72_0), (2, B72_2), (4, B72_4), (6, B72_6)]) (by kernel_rfl) (allOk_skip rfl (allOk_skip rfl (allOk_skip rfl (allOk_skip rfl trivial)))))
noncomputable def GA72 : Ctx := (72, { sig := { ps := [], rs := [] }, impl := fun _ ds k => callN AE72 2 100 B72 R72 ds k, kind := .inl 2 }) :: GA89
theorem GA72_ok : CtxOk Try.prog GA72 := ctxOk_cons ok72 rfl al72 GA89_ok

noncomputable def AE90 : Env := { Θ := Th, Γ := GA72, K := K90, ν := [], fuel := 64, lp := [] }
theorem al90 : Contract Try.prog 90 { sig := S90, impl := fun _ ds k => call AE90 S90 8 B90 R90 ds k } :=
  call_contract (E := AE90) thOk GA72_ok mixed ok90.look ok90.body ok90.n ok90.rv ok90.name rfl (by decide) (loopsOk_of (l := []) (by kernel_rfl) trivial)
noncomputable def GA90 : Ctx := (90, { sig := S90, impl := fun _ ds k => call AE90 S90 8 B90 R90 ds k }) :: GA72
theorem GA90_ok : CtxOk Try.prog GA90 := ctxOk_cons ok90 rfl al90 GA72_ok

noncomputable def AE73 : Env := { Θ := Th, Γ := GA90, K := K73, ν := [(0, ⟨[], []⟩), (2, ⟨[], []⟩), (4, ⟨[], []⟩)], fuel := 64, lp := [] }
theorem al73 : Contract Try.prog 73 { sig := S73, impl := fun _ ds k => call AE73 S73 84 B73 R73 ds k } :=
  call_contract (E := AE73) thOk GA90_ok mixed ok73.look ok73.body ok73.n ok73.rv ok73.name rfl (by decide) (loopsOk_of (l := [(0, B73_0), (2, B73_2), (4, B73_4)]) (by kernel_rfl) (allOk_skip rfl (allOk_skip rfl (allOk_skip rfl trivial))))
noncomputable def GA73 : Ctx := (73, { sig := S73, impl := fun _ ds k => call AE73 S73 84 B73 R73 ds k }) :: GA90
theorem GA73_ok : CtxOk Try.prog GA73 := ctxOk_cons ok73 rfl al73 GA90_ok

noncomputable def AE45 : Env := { Θ := Th, Γ := GA73, K := K45, ν := [(0, ⟨[], []⟩), (2, ⟨[], []⟩)], fuel := 64, lp := [] }
theorem al45 : Contract Try.prog 45 { sig := S45, impl := fun _ ds k => call AE45 S45 106 B45 R45 ds k } :=
  call_contract (E := AE45) thOk GA73_ok mixed ok45.look ok45.body ok45.n ok45.rv ok45.name rfl (by decide) (loopsOk_of (l := [(0, B45_0), (2, B45_2)]) (by kernel_rfl) (allOk_skip rfl (allOk_skip rfl trivial)))
noncomputable def GA45 : Ctx := (45, { sig := S45, impl := fun _ ds k => call AE45 S45 106 B45 R45 ds k }) :: GA73
theorem GA45_ok : CtxOk Try.prog GA45 := ctxOk_cons ok45 rfl al45 GA73_ok

noncomputable def AE22 : Env := { Θ := Th, Γ := GA45, K := K22, ν := [(0, ⟨[], []⟩)], fuel := 64, lp := [] }
theorem al22 : Contract Try.prog 22 { sig := S22, impl := fun _ ds k => call AE22 S22 72 B22 R22 ds k } :=
  call_contract (E := AE22) thOk GA45_ok mixed ok22.look ok22.body ok22.n ok22.rv ok22.name rfl (by decide) (loopsOk_of (l := [(0, B22_0)]) (by kernel_rfl) (allOk_skip rfl trivial))
noncomputable def GA22 : Ctx := (22, { sig := S22, impl := fun _ ds k => call AE22 S22 72 B22 R22 ds k }) :: GA45
theorem GA22_ok : CtxOk Try.prog GA22 := ctxOk_cons ok22 rfl al22 GA45_ok

noncomputable def AE13 : Env := { Θ := Th, Γ := GA22, K := K13, ν := [], fuel := 64, lp := [] }
theorem al13 : Contract Try.prog 13 { sig := S13, impl := fun _ ds k => call AE13 S13 88 B13 R13 ds k } :=
  call_contract (E := AE13) thOk GA22_ok mixed ok13.look ok13.body ok13.n ok13.rv ok13.name rfl (by decide) (loopsOk_of (l := []) (by kernel_rfl) trivial)
end Go.Proofs.Ytogcijgklnfjjaa

namespace Go.Proofs.Ytogcijgklnfjjaa
open Go Go.Eng
set_option maxRecDepth 1000000

theorem alive_eq {R : Type} (k : List DV → Option R) : call AE13 S13 88 B13 R13 [] k = k [.v (.one (.bool true))] := by kernel_rfl
def I13 : (R : Type) → List DV → (List DV → Option R) → Option R := fun _ ds k => match ds with
  | [] => k [.v (.one (.bool true))]
  | _ => none
theorem c13 : Contract Try.prog 13 { sig := S13, impl := I13 } := by
  refine Contract.refine fun R ds k r h => ⟨_, al13, ?_⟩
  unfold I13 at h
  split at h
  · rw [alive_eq]; exact h
  · cases h
end Go.Proofs.Ytogcijgklnfjjaa

namespace Go.Proofs.Ytogcijgklnfjjaa
open Go Go.Eng
set_option maxRecDepth 100000
noncomputable def GL4 : Ctx := (13, { sig := S13, impl := I13 }) :: (14, { sig := S14, impl := I30 }) :: (15, { sig := S15, impl := I33 }) :: (16, { sig := S16, impl := I16 }) :: []
theorem GL4_ok : CtxOk Try.prog GL4 := ctxOk_cons ok13 rfl c13 (ctxOk_cons ok14 rfl c14 (ctxOk_cons ok15 rfl c15 (ctxOk_cons ok16 rfl c16 ctxOk_nil)))
def start4 (n : Nat) (a b c ids : List Int) : AS := { n := n, lo := 0, tmps := [(0, va (.own 0)), (1, va (.own 1)), (2, va (.ints .u8 32 c)), (3, va (.own 3))], items := [(0, .view (.one .u8) 32 a), (1, .view (.one .u8) 32 b), (3, .view (.one .i64) 1 ids)] }
end Go.Proofs.Ytogcijgklnfjjaa

namespace Go.Proofs.Ytogcijgklnfjjaa
open Go Go.Eng
set_option maxRecDepth 100000
set_option linter.unusedVariables false

def f4_0_sh : Shp := { n := 147, lo := 0, slots := [(0, .one (.fix (At.own 0))), (1, .one (.fix (At.own 1))), (3, .one (.fix (At.own 3))), (6, .one (.fix (At.ptr 6 0 Off.z 32))), (10, .one (.fix (At.own 31))), (11, .one (.int IntKind.i64))], items := [(0, .view (RK.one IntKind.u8) 32), (1, .view (RK.one IntKind.u8) 32), (3, .view (RK.one IntKind.i64) 1), (6, .obj [.ints IntKind.u8 32]), (31, .row (RK.one IntKind.u8) 32)] }
def f4_0_ex1 : Shp := { n := 147, lo := 0, slots := [(35, .one (.bool)), (0, .one (.fix (At.own 0))), (1, .one (.fix (At.own 1))), (3, .one (.fix (At.own 3))), (6, .one (.fix (At.ptr 6 0 Off.z 32))), (10, .one (.fix (At.own 31))), (11, .one (.int IntKind.i64))], items := [(0, .view (RK.one IntKind.u8) 32), (1, .view (RK.one IntKind.u8) 32), (3, .view (RK.one IntKind.i64) 1), (6, .obj [.ints IntKind.u8 32]), (31, .row (RK.one IntKind.u8) 32)] }
noncomputable def f4_0_st {R : Type} (N : Nat) (self : Int → List Int → List Int → List Int → List Int → List Int → Option R) (k1 : Bool → Int → List Int → List Int → List Int → List Int → List Int → Option R) (x1 : Int) (x2 : List Int) (x3 : List Int) (x4 : List Int) (x5 : List Int) (x6 : List Int) : Option R :=
 bif Decidable.decide (x1 < nI (rowLen 32 x2)) then
 bif Decidable.decide (0 ≤ x1) && Decidable.decide (x1 < nI (rowLen 32 x6)) then
 bif Decidable.decide (0 ≤ x1) && Decidable.decide (x1 < nI (rowLen 32 x2)) then
 bif okB (List.take 32 (List.drop (mulE x1.toNat 32) x6)) && okB (List.take 32 (List.drop (mulE x1.toNat 32) x2)) then
 bif Decidable.decide (0 ≤ x1) && Decidable.decide (x1 < nI (rowLen 32 x6)) then
 let v0 : Int := IntKind.i64.wrap (x1 + 1);
 let v1 : List Int := splice x6 (Off.at (mulE x1.toNat 32)) (sN (addN (vS (List.take 32 (List.drop (mulE x1.toNat 32) x6))) (vS (List.take 32 (List.drop (mulE x1.toNat 32) x2)))));
 self v0 x2 x3 x4 x5 v1
 else Option.none
 else Option.none
 else Option.none
 else Option.none
else k1 (Decidable.decide (x1 < nI (rowLen 32 x2))) x1 x2 x3 x4 x5 x6
noncomputable def f4_0_lp {R : Type} (N : Nat) (k1 : Bool → Int → List Int → List Int → List Int → List Int → List Int → Option R) : Nat → Int → List Int → List Int → List Int → List Int → List Int → Option R
 | 0, _, _, _, _, _, _ => none
 | n + 1, x1, x2, x3, x4, x5, x6 => f4_0_st N (f4_0_lp N k1 n) k1 x1 x2 x3 x4 x5 x6
noncomputable def f4_0_F (N : Nat) : (R : Type) → List Leaf → (X → AS → Option R) → Option R := fun _ ls K => match ls with
 | [.i x1, .l x2, .l x3, .l x4, .l x5, .l x6] => f4_0_lp N (fun y1 y2 y3 y4 y5 y6 y7 => K (X.normal) (fill f4_0_ex1 [.b y1, .i y2, .l y3, .l y4, .l y5, .l y6, .l y7])) N x1 x2 x3 x4 x5 x6
 | _ => none
def f4_2_sh : Shp := { n := 147, lo := 0, slots := [(0, .one (.fix (At.own 0))), (1, .one (.fix (At.own 1))), (3, .one (.fix (At.own 3))), (6, .one (.fix (At.ptr 6 0 Off.z 32))), (10, .one (.fix (At.own 31))), (12, .one (.int IntKind.i64))], items := [(0, .view (RK.one IntKind.u8) 32), (1, .view (RK.one IntKind.u8) 32), (3, .view (RK.one IntKind.i64) 1), (6, .obj [.ints IntKind.u8 32]), (31, .row (RK.one IntKind.u8) 32)] }
def f4_2_ex1 : Shp := { n := 147, lo := 0, slots := [(53, .one (.bool)), (0, .one (.fix (At.own 0))), (1, .one (.fix (At.own 1))), (3, .one (.fix (At.own 3))), (6, .one (.fix (At.ptr 6 0 Off.z 32))), (10, .one (.fix (At.own 31))), (12, .one (.int IntKind.i64))], items := [(0, .view (RK.one IntKind.u8) 32), (1, .view (RK.one IntKind.u8) 32), (3, .view (RK.one IntKind.i64) 1), (6, .obj [.ints IntKind.u8 32]), (31, .row (RK.one IntKind.u8) 32)] }
noncomputable def f4_2_st {R : Type} (N : Nat) (self : Int → List Int → List Int → List Int → List Int → List Int → Option R) (k1 : Bool → Int → List Int → List Int → List Int → List Int → List Int → Option R) (x1 : Int) (x2 : List Int) (x3 : List Int) (x4 : List Int) (x5 : List Int) (x6 : List Int) : Option R :=
 bif Decidable.decide (x1 < nI (rowLen 32 x3)) then
 bif Decidable.decide (0 ≤ x1) && Decidable.decide (x1 < nI (rowLen 32 x6)) then
 bif Decidable.decide (0 ≤ x1) && Decidable.decide (x1 < nI (rowLen 32 x3)) then
 bif okB x5 && okB (List.take 32 (List.drop (mulE x1.toNat 32) x3)) then
 bif okB (List.take 32 (List.drop (mulE x1.toNat 32) x6)) && okB (sN (mulN (vS x5) (vS (List.take 32 (List.drop (mulE x1.toNat 32) x3))))) then
 bif Decidable.decide (0 ≤ x1) && Decidable.decide (x1 < nI (rowLen 32 x6)) then
 let v0 : Int := IntKind.i64.wrap (x1 + 1);
 let v1 : List Int := splice x6 (Off.at (mulE x1.toNat 32)) (sN (addN (vS (List.take 32 (List.drop (mulE x1.toNat 32) x6))) (vS (sN (mulN (vS x5) (vS (List.take 32 (List.drop (mulE x1.toNat 32) x3))))))));
 self v0 x2 x3 x4 x5 v1
 else Option.none
 else Option.none
 else Option.none
 else Option.none
 else Option.none
else k1 (Decidable.decide (x1 < nI (rowLen 32 x3))) x1 x2 x3 x4 x5 x6
noncomputable def f4_2_lp {R : Type} (N : Nat) (k1 : Bool → Int → List Int → List Int → List Int → List Int → List Int → Option R) : Nat → Int → List Int → List Int → List Int → List Int → List Int → Option R
 | 0, _, _, _, _, _, _ => none
 | n + 1, x1, x2, x3, x4, x5, x6 => f4_2_st N (f4_2_lp N k1 n) k1 x1 x2 x3 x4 x5 x6
noncomputable def f4_2_F (N : Nat) : (R : Type) → List Leaf → (X → AS → Option R) → Option R := fun _ ls K => match ls with
 | [.i x1, .l x2, .l x3, .l x4, .l x5, .l x6] => f4_2_lp N (fun y1 y2 y3 y4 y5 y6 y7 => K (X.normal) (fill f4_2_ex1 [.b y1, .i y2, .l y3, .l y4, .l y5, .l y6, .l y7])) N x1 x2 x3 x4 x5 x6
 | _ => none
def f4_4_sh : Shp := { n := 147, lo := 0, slots := [(3, .one (.fix (At.own 3))), (6, .one (.fix (At.ptr 6 0 Off.z 32))), (13, .one (.fix (At.own 73))), (15, .one (.fix (At.own 79))), (17, .one (.fix (At.own 85))), (19, .one (.int IntKind.i64))], items := [(3, .view (RK.one IntKind.i64) 1), (6, .obj [.ints IntKind.u8 32]), (73, .row (RK.mix ck43) 33), (79, .row (RK.mix ck43) 33), (85, .row (RK.mix ck43) 33)] }
def f4_4_ex1 : Shp := { n := 147, lo := 0, slots := [(8, .one (.bool)), (146, .one (.bool)), (113, .one (.bool)), (3, .one (.fix (At.own 3))), (6, .one (.fix (At.ptr 6 0 Off.z 32))), (13, .one (.fix (At.own 73))), (15, .one (.fix (At.own 79))), (17, .one (.fix (At.own 85))), (19, .one (.int IntKind.i64))], items := [(3, .view (RK.one IntKind.i64) 1), (6, .obj [.ints IntKind.u8 32]), (73, .row (RK.mix ck43) 33), (79, .row (RK.mix ck43) 33), (85, .row (RK.mix ck43) 33)] }
def f4_4_ex2 : Shp := { n := 147, lo := 0, slots := [(113, .one (.bool)), (3, .one (.fix (At.own 3))), (6, .one (.fix (At.ptr 6 0 Off.z 32))), (13, .one (.fix (At.own 73))), (15, .one (.fix (At.own 79))), (17, .one (.fix (At.own 85))), (19, .one (.int IntKind.i64))], items := [(3, .view (RK.one IntKind.i64) 1), (6, .obj [.ints IntKind.u8 32]), (73, .row (RK.mix ck43) 33), (79, .row (RK.mix ck43) 33), (85, .row (RK.mix ck43) 33)] }
noncomputable def f4_4_st {R : Type} (N : Nat) (self : Int → List Int → List Int → List Int → List Int → List Int → Option R) (k1 : Bool → Bool → Bool → Int → List Int → List Int → List Int → List Int → List Int → Option R) (k2 : Bool → Int → List Int → List Int → List Int → List Int → List Int → Option R) (x1 : Int) (x2 : List Int) (x3 : List Int) (x4 : List Int) (x5 : List Int) (x6 : List Int) : Option R :=
 bif Decidable.decide (x1 < nI (rowLen 33 x6)) then
 bif Decidable.decide (0 ≤ x1) && Decidable.decide (x1 < nI (rowLen 33 x6)) then
 bif Decidable.decide (0 ≤ x1) && Decidable.decide (x1 < nI (rowLen 33 x4)) then
 bif Decidable.decide (0 ≤ x1) && Decidable.decide (x1 < nI (rowLen 33 x5)) then
 bif okB x3 && okB (List.take 32 (List.drop (x1.toNat * 33 + (0 + 1)) x5)) then
 bif okB (List.take 32 (List.drop (x1.toNat * 33 + (0 + 1)) x4)) && okB (sN (mulN (vS x3) (vS (List.take 32 (List.drop (x1.toNat * 33 + (0 + 1)) x5))))) then
 bif !Decidable.decide (List.take 32 (List.drop (x1.toNat * 33 + (0 + 1)) x6) = sN (addN (vS (List.take 32 (List.drop (x1.toNat * 33 + (0 + 1)) x4))) (vS (sN (mulN (vS x3) (vS (List.take 32 (List.drop (x1.toNat * 33 + (0 + 1)) x5)))))))) then k1 Bool.false Bool.true (Decidable.decide (x1 < nI (rowLen 33 x6))) x1 x2 x3 x4 x5 x6
 else
 bif Decidable.decide (0 ≤ x1) && Decidable.decide (x1 < nI (rowLen 33 x6)) then
 bif Decidable.decide (0 ≤ x1) && Decidable.decide (x1 < nI (rowLen 1 x2)) then
 let v0 : Bool := bif Bool.false then Bool.true else x6.getD (x1.toNat * 33 + (0 + 0)) 0 != x2.getD (mulE x1.toNat 1) 0;
 bif v0 then k1 Bool.false v0 (Decidable.decide (x1 < nI (rowLen 33 x6))) x1 x2 x3 x4 x5 x6
 else
 let v1 : Int := IntKind.i64.wrap (x1 + 1);
 self v1 x2 x3 x4 x5 x6
 else Option.none
 else Option.none
 else Option.none
 else Option.none
 else Option.none
 else Option.none
 else Option.none
else k2 (Decidable.decide (x1 < nI (rowLen 33 x6))) x1 x2 x3 x4 x5 x6
noncomputable def f4_4_lp {R : Type} (N : Nat) (k1 : Bool → Bool → Bool → Int → List Int → List Int → List Int → List Int → List Int → Option R) (k2 : Bool → Int → List Int → List Int → List Int → List Int → List Int → Option R) : Nat → Int → List Int → List Int → List Int → List Int → List Int → Option R
 | 0, _, _, _, _, _, _ => none
 | n + 1, x1, x2, x3, x4, x5, x6 => f4_4_st N (f4_4_lp N k1 k2 n) k1 k2 x1 x2 x3 x4 x5 x6
noncomputable def f4_4_F (N : Nat) : (R : Type) → List Leaf → (X → AS → Option R) → Option R := fun _ ls K => match ls with
 | [.i x1, .l x2, .l x3, .l x4, .l x5, .l x6] => f4_4_lp N (fun y1 y2 y3 y4 y5 y6 y7 y8 y9 => K (X.ret) (fill f4_4_ex1 [.b y1, .b y2, .b y3, .i y4, .l y5, .l y6, .l y7, .l y8, .l y9])) (fun y1 y2 y3 y4 y5 y6 y7 => K (X.normal) (fill f4_4_ex2 [.b y1, .i y2, .l y3, .l y4, .l y5, .l y6, .l y7])) N x1 x2 x3 x4 x5 x6
 | _ => none
noncomputable def f4_raw {R : Type} (N : Nat) (a : List Int) (b : List Int) (c : List Int) (ids : List Int) (k : List DV → Option R) : Option R :=
 bif Decidable.decide (nI (rowLen 32 b) > nI (rowLen 32 a)) then
 bif Decidable.decide (0 ≤ nI (rowLen 32 b)) && (Decidable.decide (nI (rowLen 32 b) ≤ nI (rowLen 32 b)) && (Decidable.decide (nI (rowLen 32 b) ≤ 281474976710656) && Decidable.decide (nI (rowLen 32 b) * 32 ≤ 281474976710656))) then
 f4_0_lp N
 (fun w0_1 w0_2 w0_3 w0_4 w0_5 w0_6 w0_7 =>
 f4_2_lp N
 (fun w1_1 w1_2 w1_3 w1_4 w1_5 w1_6 w1_7 =>
 bif okF w1_3 && w1_5.length.ble 1073741823 then
 bif Decidable.decide (idsN w1_5 = 0) then
 bif okF w1_4 && w1_5.length.ble 1073741823 then
 bif Decidable.decide (idsN w1_5 = 0) then
 bif okF w1_7 && w1_5.length.ble 1073741823 then
 bif Decidable.decide (idsN w1_5 = 0) then
 let v2 : Bool := bif Bool.false then Bool.true else nI (rowLen 33 (splitG w1_3 w1_5)) != nI (rowLen 33 (splitG w1_7 w1_5));
 bif v2 then k [DV.v (SV.one (At.bool Bool.false))]
 else
 let v3 : Bool := bif Bool.false then Bool.true else nI (rowLen 33 (splitG w1_4 w1_5)) != nI (rowLen 33 (splitG w1_7 w1_5));
 bif v3 then k [DV.v (SV.one (At.bool Bool.false))] else f4_4_lp N (fun w4_1 w4_2 w4_3 w4_4 w4_5 w4_6 w4_7 w4_8 w4_9 => k [DV.v (SV.one (At.bool w4_1))]) (fun w5_1 w5_2 w5_3 w5_4 w5_5 w5_6 w5_7 => k [DV.v (SV.one (At.bool Bool.true))]) N 0 w1_5 w1_6 (splitG w1_3 w1_5) (splitG w1_4 w1_5) (splitG w1_7 w1_5)
 else
 let v6 : Bool := bif Bool.false then Bool.true else 0 != idsN w1_5;
 bif v6 then k [DV.v (SV.one (At.bool Bool.false))]
 else
 let v7 : Bool := bif Bool.false then Bool.true else nI (rowLen 33 (splitG w1_3 w1_5)) != nI (rowLen 33 []);
 bif v7 then k [DV.v (SV.one (At.bool Bool.false))]
 else
 let v8 : Bool := bif Bool.false then Bool.true else nI (rowLen 33 (splitG w1_4 w1_5)) != nI (rowLen 33 []);
 bif v8 then k [DV.v (SV.one (At.bool Bool.false))] else f4_4_lp N (fun w9_1 w9_2 w9_3 w9_4 w9_5 w9_6 w9_7 w9_8 w9_9 => k [DV.v (SV.one (At.bool w9_1))]) (fun w10_1 w10_2 w10_3 w10_4 w10_5 w10_6 w10_7 => k [DV.v (SV.one (At.bool Bool.true))]) N 0 w1_5 w1_6 (splitG w1_3 w1_5) (splitG w1_4 w1_5) []
 else Option.none
 else
 bif okF w1_7 && w1_5.length.ble 1073741823 then
 bif Decidable.decide (idsN w1_5 = 0) then
 bif 0 != idsN w1_5 then k [DV.v (SV.one (At.bool Bool.false))]
 else
 let v11 : Bool := bif Bool.false then Bool.true else idsN w1_5 != 0;
 bif v11 then k [DV.v (SV.one (At.bool Bool.false))]
 else
 let v12 : Bool := bif Bool.false then Bool.true else nI (rowLen 33 (splitG w1_3 w1_5)) != nI (rowLen 33 (splitG w1_7 w1_5));
 bif v12 then k [DV.v (SV.one (At.bool Bool.false))]
 else
 let v13 : Bool := bif Bool.false then Bool.true else nI (rowLen 33 []) != nI (rowLen 33 (splitG w1_7 w1_5));
 bif v13 then k [DV.v (SV.one (At.bool Bool.false))] else f4_4_lp N (fun w14_1 w14_2 w14_3 w14_4 w14_5 w14_6 w14_7 w14_8 w14_9 => k [DV.v (SV.one (At.bool w14_1))]) (fun w15_1 w15_2 w15_3 w15_4 w15_5 w15_6 w15_7 => k [DV.v (SV.one (At.bool Bool.true))]) N 0 w1_5 w1_6 (splitG w1_3 w1_5) [] (splitG w1_7 w1_5)
 else
 bif 0 != idsN w1_5 then k [DV.v (SV.one (At.bool Bool.false))]
 else
 let v16 : Bool := bif Bool.false then Bool.true else idsN w1_5 != idsN w1_5;
 bif v16 then k [DV.v (SV.one (At.bool Bool.false))]
 else
 let v17 : Bool := bif Bool.false then Bool.true else nI (rowLen 33 (splitG w1_3 w1_5)) != nI (rowLen 33 []);
 bif v17 then k [DV.v (SV.one (At.bool Bool.false))] else f4_4_lp N (fun w18_1 w18_2 w18_3 w18_4 w18_5 w18_6 w18_7 w18_8 w18_9 => k [DV.v (SV.one (At.bool w18_1))]) (fun w19_1 w19_2 w19_3 w19_4 w19_5 w19_6 w19_7 => k [DV.v (SV.one (At.bool Bool.true))]) N 0 w1_5 w1_6 (splitG w1_3 w1_5) [] []
 else Option.none
 else Option.none
 else
 bif okF w1_4 && w1_5.length.ble 1073741823 then
 bif Decidable.decide (idsN w1_5 = 0) then
 bif okF w1_7 && w1_5.length.ble 1073741823 then
 bif Decidable.decide (idsN w1_5 = 0) then
 bif idsN w1_5 != 0 then k [DV.v (SV.one (At.bool Bool.false))]
 else
 let v20 : Bool := bif Bool.false then Bool.true else nI (rowLen 33 []) != nI (rowLen 33 (splitG w1_7 w1_5));
 bif v20 then k [DV.v (SV.one (At.bool Bool.false))]
 else
 let v21 : Bool := bif Bool.false then Bool.true else nI (rowLen 33 (splitG w1_4 w1_5)) != nI (rowLen 33 (splitG w1_7 w1_5));
 bif v21 then k [DV.v (SV.one (At.bool Bool.false))] else f4_4_lp N (fun w22_1 w22_2 w22_3 w22_4 w22_5 w22_6 w22_7 w22_8 w22_9 => k [DV.v (SV.one (At.bool w22_1))]) (fun w23_1 w23_2 w23_3 w23_4 w23_5 w23_6 w23_7 => k [DV.v (SV.one (At.bool Bool.true))]) N 0 w1_5 w1_6 [] (splitG w1_4 w1_5) (splitG w1_7 w1_5)
 else
 bif idsN w1_5 != 0 then k [DV.v (SV.one (At.bool Bool.false))]
 else
 let v24 : Bool := bif Bool.false then Bool.true else 0 != idsN w1_5;
 bif v24 then k [DV.v (SV.one (At.bool Bool.false))]
 else
 let v25 : Bool := bif Bool.false then Bool.true else nI (rowLen 33 (splitG w1_4 w1_5)) != nI (rowLen 33 []);
 bif v25 then k [DV.v (SV.one (At.bool Bool.false))] else f4_4_lp N (fun w26_1 w26_2 w26_3 w26_4 w26_5 w26_6 w26_7 w26_8 w26_9 => k [DV.v (SV.one (At.bool w26_1))]) (fun w27_1 w27_2 w27_3 w27_4 w27_5 w27_6 w27_7 => k [DV.v (SV.one (At.bool Bool.true))]) N 0 w1_5 w1_6 [] (splitG w1_4 w1_5) []
 else Option.none
 else
 bif okF w1_7 && w1_5.length.ble 1073741823 then
 bif Decidable.decide (idsN w1_5 = 0) then
 bif idsN w1_5 != idsN w1_5 then k [DV.v (SV.one (At.bool Bool.false))]
 else
 let v28 : Bool := bif Bool.false then Bool.true else idsN w1_5 != 0;
 bif v28 then k [DV.v (SV.one (At.bool Bool.false))]
 else
 let v29 : Bool := bif Bool.false then Bool.true else nI (rowLen 33 []) != nI (rowLen 33 (splitG w1_7 w1_5));
 bif v29 then k [DV.v (SV.one (At.bool Bool.false))] else bif v29 then k [DV.v (SV.one (At.bool Bool.false))] else f4_4_lp N (fun w30_1 w30_2 w30_3 w30_4 w30_5 w30_6 w30_7 w30_8 w30_9 => k [DV.v (SV.one (At.bool w30_1))]) (fun w31_1 w31_2 w31_3 w31_4 w31_5 w31_6 w31_7 => k [DV.v (SV.one (At.bool Bool.true))]) N 0 w1_5 w1_6 [] [] (splitG w1_7 w1_5)
 else
 bif idsN w1_5 != idsN w1_5 then k [DV.v (SV.one (At.bool Bool.false))]
 else
 let v32 : Bool := bif Bool.false then Bool.true else idsN w1_5 != idsN w1_5;
 bif v32 then k [DV.v (SV.one (At.bool Bool.false))] else f4_4_lp N (fun w33_1 w33_2 w33_3 w33_4 w33_5 w33_6 w33_7 w33_8 w33_9 => k [DV.v (SV.one (At.bool w33_1))]) (fun w34_1 w34_2 w34_3 w34_4 w34_5 w34_6 w34_7 => k [DV.v (SV.one (At.bool Bool.true))]) N 0 w1_5 w1_6 [] [] []
 else Option.none
 else Option.none
 else Option.none)
 N 0 w0_3 w0_4 w0_5 w0_6 w0_7)
 N 0 a b ids c (zerosOf (mulE (nI (rowLen 32 b)).toNat 32))
 else Option.none
else
 bif Decidable.decide (0 ≤ nI (rowLen 32 a)) && (Decidable.decide (nI (rowLen 32 a) ≤ nI (rowLen 32 a)) && (Decidable.decide (nI (rowLen 32 a) ≤ 281474976710656) && Decidable.decide (nI (rowLen 32 a) * 32 ≤ 281474976710656))) then
 f4_0_lp N
 (fun w35_1 w35_2 w35_3 w35_4 w35_5 w35_6 w35_7 =>
 f4_2_lp N
 (fun w36_1 w36_2 w36_3 w36_4 w36_5 w36_6 w36_7 =>
 bif okF w36_3 && w36_5.length.ble 1073741823 then
 bif Decidable.decide (idsN w36_5 = 0) then
 bif okF w36_4 && w36_5.length.ble 1073741823 then
 bif Decidable.decide (idsN w36_5 = 0) then
 bif okF w36_7 && w36_5.length.ble 1073741823 then
 bif Decidable.decide (idsN w36_5 = 0) then
 let v37 : Bool := bif Bool.false then Bool.true else nI (rowLen 33 (splitG w36_3 w36_5)) != nI (rowLen 33 (splitG w36_7 w36_5));
 bif v37 then k [DV.v (SV.one (At.bool Bool.false))]
 else
 let v38 : Bool := bif Bool.false then Bool.true else nI (rowLen 33 (splitG w36_4 w36_5)) != nI (rowLen 33 (splitG w36_7 w36_5));
 bif v38 then k [DV.v (SV.one (At.bool Bool.false))] else f4_4_lp N (fun w39_1 w39_2 w39_3 w39_4 w39_5 w39_6 w39_7 w39_8 w39_9 => k [DV.v (SV.one (At.bool w39_1))]) (fun w40_1 w40_2 w40_3 w40_4 w40_5 w40_6 w40_7 => k [DV.v (SV.one (At.bool Bool.true))]) N 0 w36_5 w36_6 (splitG w36_3 w36_5) (splitG w36_4 w36_5) (splitG w36_7 w36_5)
 else
 let v41 : Bool := bif Bool.false then Bool.true else 0 != idsN w36_5;
 bif v41 then k [DV.v (SV.one (At.bool Bool.false))]
 else
 let v42 : Bool := bif Bool.false then Bool.true else nI (rowLen 33 (splitG w36_3 w36_5)) != nI (rowLen 33 []);
 bif v42 then k [DV.v (SV.one (At.bool Bool.false))]
 else
 let v43 : Bool := bif Bool.false then Bool.true else nI (rowLen 33 (splitG w36_4 w36_5)) != nI (rowLen 33 []);
 bif v43 then k [DV.v (SV.one (At.bool Bool.false))] else f4_4_lp N (fun w44_1 w44_2 w44_3 w44_4 w44_5 w44_6 w44_7 w44_8 w44_9 => k [DV.v (SV.one (At.bool w44_1))]) (fun w45_1 w45_2 w45_3 w45_4 w45_5 w45_6 w45_7 => k [DV.v (SV.one (At.bool Bool.true))]) N 0 w36_5 w36_6 (splitG w36_3 w36_5) (splitG w36_4 w36_5) []
 else Option.none
 else
 bif okF w36_7 && w36_5.length.ble 1073741823 then
 bif Decidable.decide (idsN w36_5 = 0) then
 bif 0 != idsN w36_5 then k [DV.v (SV.one (At.bool Bool.false))]
 else
 let v46 : Bool := bif Bool.false then Bool.true else idsN w36_5 != 0;
 bif v46 then k [DV.v (SV.one (At.bool Bool.false))]
 else
 let v47 : Bool := bif Bool.false then Bool.true else nI (rowLen 33 (splitG w36_3 w36_5)) != nI (rowLen 33 (splitG w36_7 w36_5));
 bif v47 then k [DV.v (SV.one (At.bool Bool.false))]
 else
 let v48 : Bool := bif Bool.false then Bool.true else nI (rowLen 33 []) != nI (rowLen 33 (splitG w36_7 w36_5));
 bif v48 then k [DV.v (SV.one (At.bool Bool.false))] else f4_4_lp N (fun w49_1 w49_2 w49_3 w49_4 w49_5 w49_6 w49_7 w49_8 w49_9 => k [DV.v (SV.one (At.bool w49_1))]) (fun w50_1 w50_2 w50_3 w50_4 w50_5 w50_6 w50_7 => k [DV.v (SV.one (At.bool Bool.true))]) N 0 w36_5 w36_6 (splitG w36_3 w36_5) [] (splitG w36_7 w36_5)
 else
 bif 0 != idsN w36_5 then k [DV.v (SV.one (At.bool Bool.false))]
 else
 let v51 : Bool := bif Bool.false then Bool.true else idsN w36_5 != idsN w36_5;
 bif v51 then k [DV.v (SV.one (At.bool Bool.false))]
 else
 let v52 : Bool := bif Bool.false then Bool.true else nI (rowLen 33 (splitG w36_3 w36_5)) != nI (rowLen 33 []);
 bif v52 then k [DV.v (SV.one (At.bool Bool.false))] else f4_4_lp N (fun w53_1 w53_2 w53_3 w53_4 w53_5 w53_6 w53_7 w53_8 w53_9 => k [DV.v (SV.one (At.bool w53_1))]) (fun w54_1 w54_2 w54_3 w54_4 w54_5 w54_6 w54_7 => k [DV.v (SV.one (At.bool Bool.true))]) N 0 w36_5 w36_6 (splitG w36_3 w36_5) [] []
 else Option.none
 else Option.none
 else
 bif okF w36_4 && w36_5.length.ble 1073741823 then
 bif Decidable.decide (idsN w36_5 = 0) then
 bif okF w36_7 && w36_5.length.ble 1073741823 then
 bif Decidable.decide (idsN w36_5 = 0) then
 bif idsN w36_5 != 0 then k [DV.v (SV.one (At.bool Bool.false))]
 else
 let v55 : Bool := bif Bool.false then Bool.true else nI (rowLen 33 []) != nI (rowLen 33 (splitG w36_7 w36_5));
 bif v55 then k [DV.v (SV.one (At.bool Bool.false))]
 else
 let v56 : Bool := bif Bool.false then Bool.true else nI (rowLen 33 (splitG w36_4 w36_5)) != nI (rowLen 33 (splitG w36_7 w36_5));
 bif v56 then k [DV.v (SV.one (At.bool Bool.false))] else f4_4_lp N (fun w57_1 w57_2 w57_3 w57_4 w57_5 w57_6 w57_7 w57_8 w57_9 => k [DV.v (SV.one (At.bool w57_1))]) (fun w58_1 w58_2 w58_3 w58_4 w58_5 w58_6 w58_7 => k [DV.v (SV.one (At.bool Bool.true))]) N 0 w36_5 w36_6 [] (splitG w36_4 w36_5) (splitG w36_7 w36_5)
 else
 bif idsN w36_5 != 0 then k [DV.v (SV.one (At.bool Bool.false))]
 else
 let v59 : Bool := bif Bool.false then Bool.true else 0 != idsN w36_5;
 bif v59 then k [DV.v (SV.one (At.bool Bool.false))]
 else
 let v60 : Bool := bif Bool.false then Bool.true else nI (rowLen 33 (splitG w36_4 w36_5)) != nI (rowLen 33 []);
 bif v60 then k [DV.v (SV.one (At.bool Bool.false))] else f4_4_lp N (fun w61_1 w61_2 w61_3 w61_4 w61_5 w61_6 w61_7 w61_8 w61_9 => k [DV.v (SV.one (At.bool w61_1))]) (fun w62_1 w62_2 w62_3 w62_4 w62_5 w62_6 w62_7 => k [DV.v (SV.one (At.bool Bool.true))]) N 0 w36_5 w36_6 [] (splitG w36_4 w36_5) []
 else Option.none
 else
 bif okF w36_7 && w36_5.length.ble 1073741823 then
 bif Decidable.decide (idsN w36_5 = 0) then
 bif idsN w36_5 != idsN w36_5 then k [DV.v (SV.one (At.bool Bool.false))]
 else
 let v63 : Bool := bif Bool.false then Bool.true else idsN w36_5 != 0;
 bif v63 then k [DV.v (SV.one (At.bool Bool.false))]
 else
 let v64 : Bool := bif Bool.false then Bool.true else nI (rowLen 33 []) != nI (rowLen 33 (splitG w36_7 w36_5));
 bif v64 then k [DV.v (SV.one (At.bool Bool.false))] else bif v64 then k [DV.v (SV.one (At.bool Bool.false))] else f4_4_lp N (fun w65_1 w65_2 w65_3 w65_4 w65_5 w65_6 w65_7 w65_8 w65_9 => k [DV.v (SV.one (At.bool w65_1))]) (fun w66_1 w66_2 w66_3 w66_4 w66_5 w66_6 w66_7 => k [DV.v (SV.one (At.bool Bool.true))]) N 0 w36_5 w36_6 [] [] (splitG w36_7 w36_5)
 else
 bif idsN w36_5 != idsN w36_5 then k [DV.v (SV.one (At.bool Bool.false))]
 else
 let v67 : Bool := bif Bool.false then Bool.true else idsN w36_5 != idsN w36_5;
 bif v67 then k [DV.v (SV.one (At.bool Bool.false))] else f4_4_lp N (fun w68_1 w68_2 w68_3 w68_4 w68_5 w68_6 w68_7 w68_8 w68_9 => k [DV.v (SV.one (At.bool w68_1))]) (fun w69_1 w69_2 w69_3 w69_4 w69_5 w69_6 w69_7 => k [DV.v (SV.one (At.bool Bool.true))]) N 0 w36_5 w36_6 [] [] []
 else Option.none
 else Option.none
 else Option.none)
 N 0 w35_3 w35_4 w35_5 w35_6 w35_7)
 N 0 a b ids c (zerosOf (mulE (nI (rowLen 32 a)).toNat 32))
 else Option.none


noncomputable def E4 (N : Nat) : Env := { Θ := Th, Γ := GL4, K := K4, ν := N4, fuel := 0, lp := [(0, mkL N4_0 f4_0_sh (f4_0_F N)), (2, mkL N4_2 f4_2_sh (f4_2_F N)), (4, mkL N4_4 f4_4_sh (f4_4_F N))] }

theorem f4_0_st_eq {R : Type} (N : Nat) (K : X → AS → Option R) (n : Nat) (x1 : Int) (x2 : List Int) (x3 : List Int) (x4 : List Int) (x5 : List Int) (x6 : List Int) : roundsOf (E4 N) N4_0 0 B4_0 K (n + 1) (fill f4_0_sh [.i x1, .l x2, .l x3, .l x4, .l x5, .l x6]) = f4_0_st N (fun x1 x2 x3 x4 x5 x6 => roundsOf (E4 N) N4_0 0 B4_0 K n (fill f4_0_sh [.i x1, .l x2, .l x3, .l x4, .l x5, .l x6])) (fun y1 y2 y3 y4 y5 y6 y7 => K (X.normal) (fill f4_0_ex1 [.b y1, .i y2, .l y3, .l y4, .l y5, .l y6, .l y7])) x1 x2 x3 x4 x5 x6 := by kernel_rfl
theorem f4_0_lp_eq {R : Type} (N : Nat) (K : X → AS → Option R) : ∀ (n : Nat) (x1 : Int) (x2 : List Int) (x3 : List Int) (x4 : List Int) (x5 : List Int) (x6 : List Int), roundsOf (E4 N) N4_0 0 B4_0 K n (fill f4_0_sh [.i x1, .l x2, .l x3, .l x4, .l x5, .l x6]) = f4_0_lp N (fun y1 y2 y3 y4 y5 y6 y7 => K (X.normal) (fill f4_0_ex1 [.b y1, .i y2, .l y3, .l y4, .l y5, .l y6, .l y7])) n x1 x2 x3 x4 x5 x6
  | 0, _, _, _, _, _, _ => rfl
  | n + 1, x1, x2, x3, x4, x5, x6 => by
    rw [f4_0_st_eq, f4_0_lp, show (fun x1 x2 x3 x4 x5 x6 => roundsOf (E4 N) N4_0 0 B4_0 K n (fill f4_0_sh [.i x1, .l x2, .l x3, .l x4, .l x5, .l x6])) = f4_0_lp N (fun y1 y2 y3 y4 y5 y6 y7 => K (X.normal) (fill f4_0_ex1 [.b y1, .i y2, .l y3, .l y4, .l y5, .l y6, .l y7])) n from by funext x1 x2 x3 x4 x5 x6; exact f4_0_lp_eq N K n x1 x2 x3 x4 x5 x6]
theorem f4_0_ok (N : Nat) (hlp : LoopsOk Try.prog (E4 N).lp B4_0) (hΓ : CtxOk Try.prog (E4 N).Γ) : LoopOk Try.prog (mkL N4_0 f4_0_sh (f4_0_F N)) 0 B4_0 := by
  refine loopOk_of (E := E4 N) thOk hΓ mixed hlp ?_
  intro R ls K r h
  unfold f4_0_F at h
  split at h
  · exact ⟨N, by rw [f4_0_lp_eq]; exact h⟩
  · cases h
theorem f4_2_st_eq {R : Type} (N : Nat) (K : X → AS → Option R) (n : Nat) (x1 : Int) (x2 : List Int) (x3 : List Int) (x4 : List Int) (x5 : List Int) (x6 : List Int) : roundsOf (E4 N) N4_2 2 B4_2 K (n + 1) (fill f4_2_sh [.i x1, .l x2, .l x3, .l x4, .l x5, .l x6]) = f4_2_st N (fun x1 x2 x3 x4 x5 x6 => roundsOf (E4 N) N4_2 2 B4_2 K n (fill f4_2_sh [.i x1, .l x2, .l x3, .l x4, .l x5, .l x6])) (fun y1 y2 y3 y4 y5 y6 y7 => K (X.normal) (fill f4_2_ex1 [.b y1, .i y2, .l y3, .l y4, .l y5, .l y6, .l y7])) x1 x2 x3 x4 x5 x6 := by kernel_rfl
theorem f4_2_lp_eq {R : Type} (N : Nat) (K : X → AS → Option R) : ∀ (n : Nat) (x1 : Int) (x2 : List Int) (x3 : List Int) (x4 : List Int) (x5 : List Int) (x6 : List Int), roundsOf (E4 N) N4_2 2 B4_2 K n (fill f4_2_sh [.i x1, .l x2, .l x3, .l x4, .l x5, .l x6]) = f4_2_lp N (fun y1 y2 y3 y4 y5 y6 y7 => K (X.normal) (fill f4_2_ex1 [.b y1, .i y2, .l y3, .l y4, .l y5, .l y6, .l y7])) n x1 x2 x3 x4 x5 x6
  | 0, _, _, _, _, _, _ => rfl
  | n + 1, x1, x2, x3, x4, x5, x6 => by
    rw [f4_2_st_eq, f4_2_lp, show (fun x1 x2 x3 x4 x5 x6 => roundsOf (E4 N) N4_2 2 B4_2 K n (fill f4_2_sh [.i x1, .l x2, .l x3, .l x4, .l x5, .l x6])) = f4_2_lp N (fun y1 y2 y3 y4 y5 y6 y7 => K (X.normal) (fill f4_2_ex1 [.b y1, .i y2, .l y3, .l y4, .l y5, .l y6, .l y7])) n from by funext x1 x2 x3 x4 x5 x6; exact f4_2_lp_eq N K n x1 x2 x3 x4 x5 x6]
theorem f4_2_ok (N : Nat) (hlp : LoopsOk Try.prog (E4 N).lp B4_2) (hΓ : CtxOk Try.prog (E4 N).Γ) : LoopOk Try.prog (mkL N4_2 f4_2_sh (f4_2_F N)) 2 B4_2 := by
  refine loopOk_of (E := E4 N) thOk hΓ mixed hlp ?_
  intro R ls K r h
  unfold f4_2_F at h
  split at h
  · exact ⟨N, by rw [f4_2_lp_eq]; exact h⟩
  · cases h
theorem f4_4_st_eq {R : Type} (N : Nat) (K : X → AS → Option R) (n : Nat) (x1 : Int) (x2 : List Int) (x3 : List Int) (x4 : List Int) (x5 : List Int) (x6 : List Int) : roundsOf (E4 N) N4_4 4 B4_4 K (n + 1) (fill f4_4_sh [.i x1, .l x2, .l x3, .l x4, .l x5, .l x6]) = f4_4_st N (fun x1 x2 x3 x4 x5 x6 => roundsOf (E4 N) N4_4 4 B4_4 K n (fill f4_4_sh [.i x1, .l x2, .l x3, .l x4, .l x5, .l x6])) (fun y1 y2 y3 y4 y5 y6 y7 y8 y9 => K (X.ret) (fill f4_4_ex1 [.b y1, .b y2, .b y3, .i y4, .l y5, .l y6, .l y7, .l y8, .l y9])) (fun y1 y2 y3 y4 y5 y6 y7 => K (X.normal) (fill f4_4_ex2 [.b y1, .i y2, .l y3, .l y4, .l y5, .l y6, .l y7])) x1 x2 x3 x4 x5 x6 := by kernel_rfl
theorem f4_4_lp_eq {R : Type} (N : Nat) (K : X → AS → Option R) : ∀ (n : Nat) (x1 : Int) (x2 : List Int) (x3 : List Int) (x4 : List Int) (x5 : List Int) (x6 : List Int), roundsOf (E4 N) N4_4 4 B4_4 K n (fill f4_4_sh [.i x1, .l x2, .l x3, .l x4, .l x5, .l x6]) = f4_4_lp N (fun y1 y2 y3 y4 y5 y6 y7 y8 y9 => K (X.ret) (fill f4_4_ex1 [.b y1, .b y2, .b y3, .i y4, .l y5, .l y6, .l y7, .l y8, .l y9])) (fun y1 y2 y3 y4 y5 y6 y7 => K (X.normal) (fill f4_4_ex2 [.b y1, .i y2, .l y3, .l y4, .l y5, .l y6, .l y7])) n x1 x2 x3 x4 x5 x6
  | 0, _, _, _, _, _, _ => rfl
  | n + 1, x1, x2, x3, x4, x5, x6 => by
    rw [f4_4_st_eq, f4_4_lp, show (fun x1 x2 x3 x4 x5 x6 => roundsOf (E4 N) N4_4 4 B4_4 K n (fill f4_4_sh [.i x1, .l x2, .l x3, .l x4, .l x5, .l x6])) = f4_4_lp N (fun y1 y2 y3 y4 y5 y6 y7 y8 y9 => K (X.ret) (fill f4_4_ex1 [.b y1, .b y2, .b y3, .i y4, .l y5, .l y6, .l y7, .l y8, .l y9])) (fun y1 y2 y3 y4 y5 y6 y7 => K (X.normal) (fill f4_4_ex2 [.b y1, .i y2, .l y3, .l y4, .l y5, .l y6, .l y7])) n from by funext x1 x2 x3 x4 x5 x6; exact f4_4_lp_eq N K n x1 x2 x3 x4 x5 x6]
theorem f4_4_ok (N : Nat) (hlp : LoopsOk Try.prog (E4 N).lp B4_4) (hΓ : CtxOk Try.prog (E4 N).Γ) : LoopOk Try.prog (mkL N4_4 f4_4_sh (f4_4_F N)) 4 B4_4 := by
  refine loopOk_of (E := E4 N) thOk hΓ mixed hlp ?_
  intro R ls K r h
  unfold f4_4_F at h
  split at h
  · exact ⟨N, by rw [f4_4_lp_eq]; exact h⟩
  · cases h

theorem lok4_4 (N : Nat) (hΓ : CtxOk Try.prog GL4) : LoopOk Try.prog (mkL N4_4 f4_4_sh (f4_4_F N)) 4 B4_4 := f4_4_ok N (loopsOk_of (l := []) (by kernel_rfl) trivial) hΓ
theorem lok4_2 (N : Nat) (hΓ : CtxOk Try.prog GL4) : LoopOk Try.prog (mkL N4_2 f4_2_sh (f4_2_F N)) 2 B4_2 := f4_2_ok N (loopsOk_of (l := []) (by kernel_rfl) trivial) hΓ
theorem lok4_0 (N : Nat) (hΓ : CtxOk Try.prog GL4) : LoopOk Try.prog (mkL N4_0 f4_0_sh (f4_0_F N)) 0 B4_0 := f4_0_ok N (loopsOk_of (l := []) (by kernel_rfl) trivial) hΓ
theorem f4_loops (N : Nat) (hΓ : CtxOk Try.prog GL4) : LoopsOk Try.prog (E4 N).lp B4 := loopsOk_of (l := [(0, B4_0), (2, B4_2), (4, B4_4)]) (by kernel_rfl) (allOk_cons (L := mkL N4_0 f4_0_sh (f4_0_F N)) rfl (lok4_0 N hΓ) (allOk_cons (L := mkL N4_2 f4_2_sh (f4_2_F N)) rfl (lok4_2 N hΓ) (allOk_cons (L := mkL N4_4 f4_4_sh (f4_4_F N)) rfl (lok4_4 N hΓ) trivial)))
theorem f4_raw_eq {R : Type} (N : Nat) (a : List Int) (b : List Int) (c : List Int) (ids : List Int) (k : List DV → Option R) : exec (E4 N) B4 (start4 147 a b c ids) (retK Th { ps := [], rs := [.val] } [] R4 k) = f4_raw N a b c ids k := by kernel_rfl
end Go.Proofs.Ytogcijgklnfjjaa

namespace Go.Proofs.Ytogcijgklnfjjaa
open Go Go.Eng
set_option maxRecDepth 100000
set_option linter.unusedVariables false

theorem horN_q (xs : List Int) (v : Nat) : ∀ (i r : Nat), q (horN xs v i r) = q r * pw (q v) i + ev i (fun j => q (numF xs j)) (q v)
  | 0, r => by
    have e : ev 0 (fun j => q (numF xs j)) (q v) = 0 := rfl
    have e2 : pw (q v) 0 = 1 := rfl
    rw [e, e2]; show q r = _; grind
  | i + 1, r => by
    have e : horN xs v (i + 1) r = horN xs v i (addN (mulN r v) (vS (elF xs i))) := rfl
    have e2 : pw (q v) (i + 1) = q v * pw (q v) i := rfl
    rw [e, horN_q xs v i, q_add, q_mul, ev_snoc, e2, show vS (elF xs i) = numF xs i from rfl]; grind
theorem evN_q (xs : List Int) (v : Nat) : q (evN xs v) = ev (xs.length / 32) (fun j => q (numF xs j)) (q v) := by
  unfold evN
  rw [horN_q, q_zero]; grind

theorem iter_get {φ : Nat → Nat → Nat} : ∀ (m i : Nat) (g : Nat → Nat) (j : Nat), iterF (fun i g => upd g i (φ i (g i))) m i g j = if i ≤ j ∧ j < i + m then φ j (g j) else g j
  | 0, i, g, j => by rw [if_neg (by omega)]; rfl
  | m + 1, i, g, j => by
    show iterF (fun i g => upd g i (φ i (g i))) m (i + 1) (upd g i (φ i (g i))) j = _
    rw [iter_get m]
    by_cases h1 : j = i
    · subst h1; rw [if_neg (by omega), if_pos (by omega)]; simp [upd]
    · have e : upd g i (φ i (g i)) j = g j := by simp [upd, h1]
      rw [e]
      by_cases h2 : i + 1 ≤ j ∧ j < i + 1 + m
      · rw [if_pos h2, if_pos (by omega)]
      · rw [if_neg h2, if_neg (by omega)]

theorem f4_adda {R : Type} {N : Nat} (k1 : Bool → Int → List Int → List Int → List Int → List Int → List Int → Option R) {a b c ids : List Int} {na m : Nat} (ha : okF a = true) (hn : a.length / 32 = na) (hm : na ≤ m) (hb : m ≤ 1048576) :
    ∀ j i : Nat, i + j = na → ∀ fuel, j < fuel → ∀ g, LtE g → f4_0_lp N k1 fuel (i : Int) a b ids c (arrN g m) =
      k1 false (na : Int) a b ids c (arrN (iterF (fun i g => upd g i (addN (g i) (numF a i))) j i g) m) := by
  intro j
  induction j with
  | zero =>
    intro i h fuel hf g hg
    obtain ⟨f, rfl⟩ : ∃ f, fuel = f + 1 := ⟨fuel - 1, by omega⟩
    show f4_0_st N (f4_0_lp N _ f) _ _ _ _ _ _ _ = _
    unfold f4_0_st
    rw [rows32 ha, hn, ltF (by omega), cond_false, show i = na by omega]
    rfl
  | succ j ih =>
    intro i h fuel hf g hg
    obtain ⟨f, rfl⟩ : ∃ f, fuel = f + 1 := ⟨fuel - 1, by omega⟩
    show f4_0_st N (f4_0_lp N _ f) _ _ _ _ _ _ _ = _
    unfold f4_0_st
    have e1 : List.take 32 (List.drop (i * 32) a) = elF a i := rfl
    rw [rows32 ha, hn, ltT (show i < na by omega), arr_rows, ltT (show i < m by omega), ge0, toN, e1, okF_el ha (by omega), arr_el g (show i < m by omega), okB_sN, vS_sN (hg _), arr_set g _ (show i < m by omega), wAdd (by omega)]
    simp only [Bool.and_self, cond_true]
    exact ih (i + 1) (by omega) f (by omega) _ (hg.upd (addN_lt _ _) _)
theorem f4_addb {R : Type} {N : Nat} (k1 : Bool → Int → List Int → List Int → List Int → List Int → List Int → Option R) {a b c ids : List Int} {nb m : Nat} (ha : okF b = true) (hc : okB c = true) (hn : b.length / 32 = nb) (hm : nb ≤ m) (hb : m ≤ 1048576) :
    ∀ j i : Nat, i + j = nb → ∀ fuel, j < fuel → ∀ g, LtE g → f4_2_lp N k1 fuel (i : Int) a b ids c (arrN g m) =
      k1 false (nb : Int) a b ids c (arrN (iterF (fun i g => upd g i (addN (g i) (mulN (vS c) (numF b i)))) j i g) m) := by
  intro j
  induction j with
  | zero =>
    intro i h fuel hf g hg
    obtain ⟨f, rfl⟩ : ∃ f, fuel = f + 1 := ⟨fuel - 1, by omega⟩
    show f4_2_st N (f4_2_lp N _ f) _ _ _ _ _ _ _ = _
    unfold f4_2_st
    rw [rows32 ha, hn, ltF (by omega), cond_false, show i = nb by omega]
    rfl
  | succ j ih =>
    intro i h fuel hf g hg
    obtain ⟨f, rfl⟩ : ∃ f, fuel = f + 1 := ⟨fuel - 1, by omega⟩
    show f4_2_st N (f4_2_lp N _ f) _ _ _ _ _ _ _ = _
    unfold f4_2_st
    have e1 : List.take 32 (List.drop (i * 32) b) = elF b i := rfl
    rw [rows32 ha, hn, ltT (show i < nb by omega), arr_rows, ltT (show i < m by omega), ge0, toN, e1, okF_el ha (by omega), arr_el g (show i < m by omega), okB_sN, hc, okB_sN, vS_sN (hg _), vS_sN (mulN_lt _ _), arr_set g _ (show i < m by omega), wAdd (by omega)]
    simp only [Bool.and_self, cond_true]
    exact ih (i + 1) (by omega) f (by omega) _ (hg.upd (addN_lt _ _) _)
theorem f4_cmp {R : Type} {N : Nat} (k1 : Bool → Bool → Bool → Int → List Int → List Int → List Int → List Int → List Int → Option R) (k2 : Bool → Int → List Int → List Int → List Int → List Int → List Int → Option R) {c ids : List Int} {n : Nat} {A B S : Nat → Nat} (hc : okB c = true)
    (hn : ids.length = n) (hb : n ≤ 1048576) (hA : LtE A) (hB : LtE B) (hS : ∀ i, i < n → S i = addN (A i) (mulN (vS c) (B i))) :
    ∀ j i : Nat, i + j = n → ∀ fuel, j < fuel → f4_4_lp N k1 k2 fuel (i : Int) ids c (shG (fun i => ids.getD i 0) A n) (shG (fun i => ids.getD i 0) B n) (shG (fun i => ids.getD i 0) S n) =
      k2 false (n : Int) ids c (shG (fun i => ids.getD i 0) A n) (shG (fun i => ids.getD i 0) B n) (shG (fun i => ids.getD i 0) S n) := by
  intro j
  induction j with
  | zero =>
    intro i h fuel hf
    obtain ⟨f, rfl⟩ : ∃ f, fuel = f + 1 := ⟨fuel - 1, by omega⟩
    show f4_4_st N (f4_4_lp N _ _ f) _ _ _ _ _ _ _ _ = _
    unfold f4_4_st
    rw [shG_rows, ltF (by omega), cond_false, show i = n by omega]
  | succ j ih =>
    intro i h fuel hf
    obtain ⟨f, rfl⟩ : ∃ f, fuel = f + 1 := ⟨fuel - 1, by omega⟩
    show f4_4_st N (f4_4_lp N _ _ f) _ _ _ _ _ _ _ _ = _
    unfold f4_4_st
    have ev1 : ∀ l : List Int, List.take 32 (List.drop (Int.toNat (i : Int) * 33 + (0 + 1)) l) = List.take 32 (List.drop (i * 33 + 1) l) := fun _ => rfl
    have ev2 : ∀ l : List Int, l.getD (Int.toNat (i : Int) * 33 + (0 + 0)) 0 = l.getD (i * 33) 0 := fun _ => rfl
    rw [shG_rows, shG_rows, shG_rows, ltT (show i < n by omega), ge0, ev1, ev1, ev1, ev2, shG_val _ A (show i < n by omega), shG_val _ B (show i < n by omega), shG_val _ S (show i < n by omega), shG_id _ S (show i < n by omega), hc, okB_sN, okB_sN, okB_sN, vS_sN (hA _), vS_sN (hB _), vS_sN (mulN_lt _ _),
      ← hS i (by omega), decide_eq_true (rfl : sN (S i) = sN (S i)), rows1, hn, ltT (show i < n by omega), show mulE (Int.toNat (i : Int)) 1 = i from rfl, wAdd (by omega)]
    simp only [Bool.and_self, cond_true, Bool.not_true, cond_false, bne_self_eq_false]
    exact ih (i + 1) (by omega) f (by omega)

noncomputable def sumG (a b c : List Int) (na nb : Nat) : Nat → Nat :=
  iterF (fun i g => upd g i (addN (g i) (mulN (vS c) (numF b i)))) nb 0 (iterF (fun i g => upd g i (addN (g i) (numF a i))) na 0 (fun _ => 0))
theorem sumG_lt (a b c : List Int) (na nb : Nat) : LtE (sumG a b c na nb) := iterF_inv (fun i g h => h.upd (addN_lt _ _) _) _ _ _ (iterF_inv (fun i g h => h.upd (addN_lt _ _) _) _ _ _ ltE_zero)
theorem sum_ev (a b c : List Int) {na nb m : Nat} (hna : a.length / 32 = na) (hnb : b.length / 32 = nb) (h1 : na ≤ m) (h2 : nb ≤ m) (v : Nat) : evN (arrN (sumG a b c na nb) m) v = addN (evN a v) (mulN (vS c) (evN b v)) := by
  apply q_inj (evN_lt _ _) (addN_lt _ _)
  rw [evN_q, q_add, q_mul, evN_q, evN_q, arr_div, hna, hnb]
  have hA : ev na (fun j => q (numF a j)) (q v) = ev m (fun j => if j < na then q (numF a j) else 0) (q v) := by
    obtain ⟨d, rfl⟩ : ∃ d, m = na + d := ⟨m - na, by omega⟩
    rw [ev_ext _ _ na d fun i h1 _ => by rw [if_neg (by omega)]]
    exact ev_congr fun i hi => by rw [if_pos hi]
  have hB : ev nb (fun j => q (numF b j)) (q v) = ev m (fun j => if j < nb then q (numF b j) else 0) (q v) := by
    obtain ⟨d, rfl⟩ : ∃ d, m = nb + d := ⟨m - nb, by omega⟩
    rw [ev_ext _ _ nb d fun i h1 _ => by rw [if_neg (by omega)]]
    exact ev_congr fun i hi => by rw [if_pos hi]
  rw [hA, hB, ← ev_smul, ← ev_add]
  refine ev_congr fun i hi => ?_
  rw [numF_arr (sumG_lt a b c na nb) hi]
  unfold sumG
  rw [iter_get (φ := fun i x => addN x (mulN (vS c) (numF b i))) nb 0, iter_get (φ := fun i x => addN x (numF a i)) na 0]
  simp only [Nat.zero_le, true_and, Nat.zero_add]
  by_cases c1 : i < na <;> by_cases c2 : i < nb <;> simp only [c1, c2, if_true, if_false, q_add, q_mul, q_zero] <;> grind

theorem f4_true {a b c ids : List Int} {na nb n : Nat} (ha : okF a = true) (hb : okF b = true) (hc : okB c = true) (hna : a.length = na * 32) (hnb : b.length = nb * 32) (hn : ids.length = n) (h1 : na ≤ 1048576) (h2 : nb ≤ 1048576) (h3 : n ≤ 1048576) :
    f4_raw (na + nb + n + 2) a b c ids some = some [.v (.one (.bool true))] := by
  have ea : a.length / 32 = na := by omega
  have eb : b.length / 32 = nb := by omega
  have ra : nI (rowLen 32 a) = (na : Int) := by rw [rows32 ha, ea]
  have rb : nI (rowLen 32 b) = (nb : Int) := by rw [rows32 hb, eb]
  have bnd : ∀ m : Nat, m ≤ 1048576 → (decide (0 ≤ (m : Int)) && (decide ((m : Int) ≤ (m : Int)) && (decide ((m : Int) ≤ 281474976710656) && decide ((m : Int) * 32 ≤ 281474976710656)))) = true := fun m hm => by
    simp only [Bool.and_eq_true, decide_eq_true_eq]; omega
  unfold f4_raw
  rw [ra, rb]
  by_cases hgt : (nb : Int) > (na : Int)
  · rw [decide_eq_true hgt, cond_true, bnd nb h2, cond_true, toN, arr_zero]
    refine (f4_adda (m := nb) _ ha ea (by omega) (by omega) na 0 (by omega) (na + nb + n + 2) (by omega) _ ltE_zero).trans ?_
    refine (f4_addb (m := nb) _ hb hc eb (by omega) (by omega) nb 0 (by omega) (na + nb + n + 2) (by omega) _ (iterF_inv (fun i g h => h.upd (addN_lt _ _) _) _ _ _ ltE_zero)).trans ?_
    rw [show iterF (fun i g => upd g i (addN (g i) (mulN (vS c) (numF b i)))) nb 0 (iterF (fun i g => upd g i (addN (g i) (numF a i))) na 0 (fun _ => 0)) = sumG a b c na nb from rfl]
    rw [ha, hb, arr_okF (by omega), hn, show Nat.ble n 1073741823 = true from Nat.ble_eq_true_of_le (by omega)]
    simp only [Bool.and_self, cond_true]
    cases hid : decide (idsN ids = 0) with
    | true =>
      simp only [cond_true]
      unfold splitG
      rw [shG_rows, shG_rows, shG_rows, hn]
      simp only [bne_self_eq_false, cond_false]
      exact f4_cmp _ _ hc hn h3 (fun i => evN_lt _ _) (fun i => evN_lt _ _) (fun i _ => sum_ev a b c ea eb (by omega) (by omega) _) n 0 (by omega) (na + nb + n + 2) (by omega)
    | false =>
      simp only [cond_false, bne_self_eq_false]
      show f4_4_st _ (f4_4_lp _ _ _ _) _ _ _ _ _ _ _ _ = _
      unfold f4_4_st
      rfl
  · rw [decide_eq_false hgt, cond_false, bnd na h1, cond_true, toN, arr_zero]
    refine (f4_adda (m := na) _ ha ea (by omega) (by omega) na 0 (by omega) (na + nb + n + 2) (by omega) _ ltE_zero).trans ?_
    refine (f4_addb (m := na) _ hb hc eb (by omega) (by omega) nb 0 (by omega) (na + nb + n + 2) (by omega) _ (iterF_inv (fun i g h => h.upd (addN_lt _ _) _) _ _ _ ltE_zero)).trans ?_
    rw [show iterF (fun i g => upd g i (addN (g i) (mulN (vS c) (numF b i)))) nb 0 (iterF (fun i g => upd g i (addN (g i) (numF a i))) na 0 (fun _ => 0)) = sumG a b c na nb from rfl]
    rw [ha, hb, arr_okF (by omega), hn, show Nat.ble n 1073741823 = true from Nat.ble_eq_true_of_le (by omega)]
    simp only [Bool.and_self, cond_true]
    cases hid : decide (idsN ids = 0) with
    | true =>
      simp only [cond_true]
      unfold splitG
      rw [shG_rows, shG_rows, shG_rows, hn]
      simp only [bne_self_eq_false, cond_false]
      exact f4_cmp _ _ hc hn h3 (fun i => evN_lt _ _) (fun i => evN_lt _ _) (fun i _ => sum_ev a b c ea eb (by omega) (by omega) _) n 0 (by omega) (na + nb + n + 2) (by omega)
    | false =>
      simp only [cond_false, bne_self_eq_false]
      show f4_4_st _ (f4_4_lp _ _ _ _) _ _ _ _ _ _ _ _ = _
      unfold f4_4_st
      rfl
end Go.Proofs.Ytogcijgklnfjjaa

namespace Go.Proofs.Ytogcijgklnfjjaa
open Go Go.Eng Go.ChangeShapes Go.WideShapes Go.RowKit Go.ChangeAt
set_option maxRecDepth 100000

theorem contract4 (H : Type) (enc : TypeId × Value → H) (W : World) (base : Nat) (args : Array Value) (ds gs : List (DataW H)) (before : List MemPlace)
    (hval : ∀ (j : Nat) t v, Try.f4.params[j]? = some t → args[j]? = some v → Value.okWide Try.prog W .any base t v)
    (hW : DataW.Whole enc Try.prog Try.f4.params.toList Rows.shamirSumsSpec.vars false W args.toList ds gs before) (hk : Rows.uptoSmall H (ds ++ gs) = true) :
    Calls Try.prog 4 args W fun e W' => ∃ v, e = .returned v ∧ Rows.shamirSumsSpec.post enc Try.prog Try.f4 false true false false W args v W' := by
  have hW' := hW
  obtain ⟨p, q, hA, hV, rfl, hfz, hnd⟩ := hW
  obtain ⟨rfl, rfl⟩ := trodVars_none hV
  rw [Try.params4] at hA hval
  obtain ⟨v0, vs0, d0, ds0, p0, q0, hargs, rfl, rfl, h0, r0⟩ := trodAll_cons hA
  obtain ⟨v1, vs1, d1, ds1, p1, q1, rfl, rfl, rfl, h1, r1⟩ := trodAll_cons r0
  obtain ⟨v2, vs2, d2, ds2, p2, q2, rfl, rfl, rfl, h2, r2⟩ := trodAll_cons r1
  obtain ⟨v3, vs3, d3, ds3, p3, q3, rfl, rfl, rfl, h3, r3⟩ := trodAll_cons r2
  obtain ⟨rfl, rfl, rfl⟩ := trodAll_nil r3
  obtain rfl : args = #[v0, v1, v2, v3] := by cases args; simp_all
  have hb := bulk_bound hk
  simp only [List.append_nil, Rows.uptoBulkAll, Nat.add_zero] at hb
  obtain ⟨A0, n0, c0, rfl⟩ := okWide_slice Try.underlying23 (hval 0 23 v0 rfl rfl)
  obtain ⟨f0, h0⟩ := h0
  obtain ⟨x0, len0, cap0, Ad0, loc0, o01, o02, l0, o04, o05, o06, w0, o08⟩ := open_view (k := .u8) (es := 32) Try.underlying23 (by omega) (elSc H enc) h0
  have b0 : len0 ≤ Rows.uptoBulk d0 := bulk_slice o08
  obtain ⟨A1, n1, c1, rfl⟩ := okWide_slice Try.underlying23 (hval 1 23 v1 rfl rfl)
  obtain ⟨f1, h1⟩ := h1
  obtain ⟨x1, len1, cap1, Ad1, loc1, o11, o12, l1, o14, o15, o16, w1, o18⟩ := open_view (k := .u8) (es := 32) Try.underlying23 (by omega) (elSc H enc) h1
  have b1 : len1 ≤ Rows.uptoBulk d1 := bulk_slice o18
  obtain ⟨x2, rfl, l2, w2⟩ := open_arr Try.underlying30 Try.underlying5 (by kernel_rfl) (by kernel_rfl) (hval 2 30 v2 rfl rfl) h2
  obtain ⟨A3, n3, c3, rfl⟩ := okWide_slice Try.underlying37 (hval 3 37 v3 rfl rfl)
  obtain ⟨f3, h3⟩ := h3
  obtain ⟨x3, len3, cap3, Ad3, loc3, o31, o32, l3, o34, o35, o36, w3, o38⟩ := open_view (k := .i64) (es := 1) Try.underlying37 (by omega) (elInt H enc) h3
  have b3 : len3 ≤ Rows.uptoBulk d3 := bulk_slice o38
  have hs : Sim W { blk := fun _ => False, loc := ({ loc := locOf [(0, loc0), (1, loc1), (3, loc3)], tot := fun _ => 0 } : Rho).loc, tot := ({ loc := locOf [(0, loc0), (1, loc1), (3, loc3)], tot := fun _ => 0 } : Rho).tot, sh := (start4 147 x0 x1 x2 x3).S, out := ({ loc := locOf [(0, loc0), (1, loc1), (3, loc3)], tot := fun _ => 0 } : Rho).out } ({ loc := locOf [(0, loc0), (1, loc1), (3, loc3)], tot := fun _ => 0 } : Rho) (start4 147 x0 x1 x2 x3) { tmps := #[.slice A0 n0 c0, .slice A1 n1 c1, .agg (x2.map (Value.int .u8)).toArray, .slice A3 n3 c3] ++ Array.replicate (147 - 4) undef, defers := [] } W := by
    refine sim_startD (s0 := start4 147 x0 x1 x2 x3) (ρ := { loc := locOf [(0, loc0), (1, loc1), (3, loc3)], tot := fun _ => 0 }) (args := #[.slice A0 n0 c0, .slice A1 n1 c1, .agg (x2.map (Value.int .u8)).toArray, .slice A3 n3 c3]) (n := 147) (avs := [.s (.one (.own 0)), .s (.one (.own 1)), .s (.one (.ints .u8 32 x2)), .s (.one (.own 3))]) rfl (by simp) rfl ?_ ?_ ?_ (fun b hb => hb.elim) ⟨(show RelAt ({ loc := locOf [(0, loc0), (1, loc1), (3, loc3)], tot := fun _ => 0 } : Rho) (start4 147 x0 x1 x2 x3).S (.own 0) [Value.slice A0 n0 c0] from rel_own rfl o01 o02 l0 o05 (by omega) rfl), (show RelAt ({ loc := locOf [(0, loc0), (1, loc1), (3, loc3)], tot := fun _ => 0 } : Rho) (start4 147 x0 x1 x2 x3).S (.own 1) [Value.slice A1 n1 c1] from rel_own rfl o11 o12 l1 o15 (by omega) rfl), ⟨rfl, l2⟩, (show RelAt ({ loc := locOf [(0, loc0), (1, loc1), (3, loc3)], tot := fun _ => 0 } : Rho) (start4 147 x0 x1 x2 x3).S (.own 3) [Value.slice A3 n3 c3] from rel_own rfl o31 o32 l3 o35 (by omega) rfl), trivial⟩
    · simp [start4, Nodup', putNames]
    · intro j it hi
      simp only [start4, AS.I, findI_cons] at hi
      split at hi
      · rename_i hj; subst hj; injection hi with hi; subst hi
        exact ⟨rfl, ⟨by omega, trivial⟩, ⟨len0, l0⟩, o04⟩
      ·
        split at hi
        · rename_i hj; subst hj; injection hi with hi; subst hi
          exact ⟨rfl, ⟨by omega, trivial⟩, ⟨len1, l1⟩, o14⟩
        ·
          split at hi
          · rename_i hj; subst hj; injection hi with hi; subst hi
            exact ⟨rfl, ⟨by omega, trivial⟩, ⟨len3, l3⟩, o34⟩
          ·
            simp [findI] at hi
    · intro j p hp
      simp only [locOf] at hp
      split at hp
      · exact o06 p hp
      ·
        split at hp
        · exact o16 p hp
        ·
          split at hp
          · exact o36 p hp
          ·
            cases hp
  have he := f4_true (okF_row (by omega) l0 w0) (okF_row (by omega) l1 w1) (okB_row l2 w2) l0 l1 (by omega : x3.length = len3) (by omega) (by omega) (by omega)
  rw [← f4_raw_eq] at he
  refine (law_calls thOk GL4_ok mixed ok4 (f4_loops _ GL4_ok) (fun _ => id) hs he).mono fun e W' ⟨h1, h2, h3, h4⟩ => ?_
  exact ⟨_, h1, post_of_law laidOut (by kernel_rfl) Try.underlying4 rfl (by rw [Try.params4]; intro t ht; simp only [List.mem_cons, List.not_mem_nil, or_false] at ht; rcases ht with rfl | rfl | rfl | rfl <;> exact ⟨by kernel_rfl, by decide +kernel⟩) ⟨rfl, rfl, rfl⟩ hW' h2 h3 h4⟩

theorem lifted4 (os : Os) (started : os.Started) (H : Type) (enc : TypeId × Value → H) (F : Stop.Interp) :
    ReturnsInHanded {} Try.checked os 4 .any ((Rows.OpenSpec.upto Rows.shamirSumsSpec).pre6 enc Try.prog Try.f4 Rows.shamirSumsUptoRow.domain false) (((Rows.OpenSpec.upto Rows.shamirSumsSpec).at F).post enc Try.prog Try.f4 false true false false) := by
  refine returnsInHanded_of_cond (C := Try.checked) (s := Rows.OpenSpec.upto Rows.shamirSumsSpec) (k := Rows.uptoSmall) rfl own0 started (by kernel_rfl) Try.func4
    (OpenSpec.witness (enc := enc) (C := Try.checked) (s := Rows.OpenSpec.upto Rows.shamirSumsSpec) (k := Rows.uptoSmall) rfl false ⟨#[], #[.slice none 0 0, .slice none 0 0, .agg (Array.mk (List.replicate 32 (Value.int .u8 0))), .slice none 0 0], []⟩ 8 (by kernel_rfl) (by kernel_rfl) (by kernel_rfl)
      (x := ([.nil, .nil, .agg (List.replicate 32 (.lit (.int .u8 0))), .nil], [], [])) (by kernel_rfl) rfl (by kernel_rfl)) ?_
  intro W base args ds gs before hval hW _ hk _
  exact contract4 H enc W base args ds gs before hval hW hk

theorem over4 : Rows.shamirSumsUptoRow.holds Try.pinned (Rows.OpenSpec.upto Rows.shamirSumsSpec) :=
  OpenClaim.holds_of_cond 4 Try.f4 rfl rfl rfl rfl rfl rfl rfl ⟨rfl, rfl, rfl, rfl, rfl⟩ rfl rfl rfl rfl rfl (by kernel_rfl) Try.func4 (by kernel_rfl)
    (of_decide_eq_true (by kernel_rfl)) (by unfold Func.isWrapper; first | (rw [if_pos (by decide +kernel)]; kernel_rfl) | (rw [if_neg (by decide +kernel)]; exact ⟨rfl, rfl⟩))
    (fun os started H enc _ F => lifted4 os started H enc F)

theorem shamirSums_holds : Rows.ShamirSumsUptoSaid := over4
end Go.Proofs.Ytogcijgklnfjjaa

#print axioms Go.Proofs.Ytogcijgklnfjjaa.shamirSums_holds
