/- A part of the proof: ShamirRecovers: for any shares, place and threshold whose data stay within 1,048,576: Interpolate, Recover and Consistent answer as the document. -/
import Derived.Test.YtogcijgklnfjjaaGreatShamirRecoversUptoSaidT4
import Derived.Test.YtogcijgklnfjjaaGreatRows
import Derived.JoinedCond
set_option linter.unusedVariables false
set_option linter.unusedSimpArgs false

namespace Go.Proofs.YtogcijgklnfjjaaGreat
noncomputable section
open Go Go.Eng
set_option maxRecDepth 100000
set_option linter.unusedVariables false
def ptX (p : List Int) (i : Nat) : List Int := List.take 32 (List.drop (i * 64) p)
def ptY (p : List Int) (i : Nat) : List Int := List.take 32 (List.drop (i * 64 + 32) p)
def okP (p : List Int) : Bool := (Nat.beq (p.length % 64) 0 && Nat.ble p.length 1073741824) && p.all fun b => decide (0 ≤ b) && decide (b < 256)
theorem okP_n {p : List Int} (h : okP p = true) : p.length = (p.length / 64) * 64 ∧ p.length ≤ 1073741824 := by
 unfold okP at h
 simp only [Bool.and_eq_true] at h
 have h1 := Nat.eq_of_beq_eq_true h.1.1
 have h2 := Nat.le_of_ble_eq_true h.1.2
 omega
theorem okB_take {p : List Int} (h : p.all (fun b => decide (0 ≤ b) && decide (b < 256)) = true) {e : Nat} (he : e + 32 ≤ p.length) : okB (List.take 32 (List.drop e p)) = true := by
 have h3 := List.all_eq_true.1 h
 unfold okB
 rw [decide_eq_true (by rw [List.length_take, List.length_drop]; omega), Bool.true_and, List.all_eq_true]
 intro b hb
 exact h3 b (List.mem_of_mem_drop (List.mem_of_mem_take hb))
theorem okP_x {p : List Int} (h : okP p = true) {i : Nat} (hi : i < p.length / 64) : okB (ptX p i) = true := by
 have hn := okP_n h
 unfold okP at h
 rw [Bool.and_eq_true] at h
 exact okB_take h.2 (by omega)
theorem okP_y {p : List Int} (h : okP p = true) {i : Nat} (hi : i < p.length / 64) : okB (ptY p i) = true := by
 have hn := okP_n h
 unfold okP at h
 rw [Bool.and_eq_true] at h
 exact okB_take h.2 (by omega)
theorem rows64 (p : List Int) : nI (rowLen 64 p) = ((p.length / 64 : Nat) : Int) := rfl
def pX (p : List Int) (i : Nat) : Nat := vS (ptX p i)
def pY (p : List Int) (i : Nat) : Nat := vS (ptY p i)
theorem pX_lt (p : List Int) : LtE (pX p) := fun _ => vS_lt _
theorem pY_lt (p : List Int) : LtE (pY p) := fun _ => vS_lt _
def dupAll (key : Nat → List Int) : Nat → Nat → Bool
 | 0, _ => false
 | j + 1, i => hasK key (key i) i || dupAll key j (i + 1)
theorem dupAll_iff {key : Nat → List Int} : ∀ {j i}, dupAll key j i = true ↔ ∃ a b, a < b ∧ i ≤ b ∧ b < i + j ∧ key a = key b
 | 0, i => by
  simp only [dupAll, Bool.false_eq_true, false_iff]
  rintro ⟨a, b, h1, h2, h3, _⟩; omega
 | j + 1, i => by
  unfold dupAll
  rw [Bool.or_eq_true, hasK_iff, dupAll_iff (j := j)]
  constructor
  ·
   rintro (⟨a, h1, h2⟩ | ⟨a, b, h1, h2, h3, h4⟩)
   ·
    exact ⟨a, i, h1, by omega, by omega, h2⟩
   ·
    exact ⟨a, b, h1, by omega, by omega, h4⟩
  ·
   rintro ⟨a, b, h1, h2, h3, h4⟩
   by_cases e : b = i
   ·
    subst e; exact .inl ⟨a, h1, h4⟩
   ·
    exact .inr ⟨a, b, h1, by omega, by omega, h4⟩
def keyP (p : List Int) (i : Nat) : List Int := sN (pX p i)
def dupsP (p : List Int) : Bool := dupAll (keyP p) (p.length / 64) 0
theorem f26_seen {R : Type} {N : Nat} (K : Int → Option R) (k2 : Bool → Int → Int → List Int → List (List Int) → Option R) {p : List Int} {n : Nat} (hp : okP p = true) (hn : p.length / 64 = n) (hb : n ≤ 30000) :
  ∀ j i : Nat, i + j = n → ∀ fuel, j < fuel → f26_0_lp N (fun w _ _ _ _ _ _ _ _ _ _ => K w) k2 fuel (n : Int) (i : Int) p (seenG (keyP p) i) =
   bif dupAll (keyP p) j i then K 5 else k2 false (n : Int) (n : Int) p (seenG (keyP p) n) := by
 intro j
 induction j with
 | zero =>
  intro i h fuel hf
  obtain ⟨f, rfl⟩ : ∃ f, fuel = f + 1 := ⟨fuel - 1, by omega⟩
  show f26_0_st N (f26_0_lp N _ _ f) _ _ _ _ _ _ = _
  unfold f26_0_st
  rw [ltF (by omega), cond_false, show i = n by omega]
  rfl
 | succ j ih =>
  intro i h fuel hf
  obtain ⟨f, rfl⟩ : ∃ f, fuel = f + 1 := ⟨fuel - 1, by omega⟩
  show f26_0_st N (f26_0_lp N _ _ f) _ _ _ _ _ _ = _
  unfold f26_0_st
  have e1 : List.take 32 (List.drop (Int.toNat (i : Int) * 64 + 0) p) = ptX p i := rfl
  have hk : sN (addN (vS (ptX p i)) (vS (List.replicate 32 (0 : Int)))) = keyP p i := by
   rw [b_zero', vS_sN ell_pos, addN_zero (vS_lt _)]; rfl
  have hz : okB (List.replicate 32 (0 : Int)) = true := by rw [b_zero']; exact okB_sN 0
  rw [ltT (show i < n by omega), rows64, hn, ge0, ltT (show i < n by omega), e1, okP_x hp (by omega), hz, hk, seen_has, wAdd (by omega)]
  simp only [Bool.and_self, cond_true]
  unfold dupAll
  cases hasK (keyP p) (keyP p i) i with
  | true => rfl
  | false =>
   rw [cond_false, Bool.false_or]
   exact ih (i + 1) (by omega) f (by omega)
theorem f26_ys {R : Type} {N : Nat} (k1 : Bool → Int → Int → Int → List Int → List Int → Option R) {p : List Int} {n : Nat} (hp : okP p = true) (hn : p.length / 64 = n) (hb : n ≤ 30000) :
  ∀ j i : Nat, i + j = n → ∀ fuel, j < fuel → ∀ g, LtE g → f26_2_lp N k1 fuel (n : Int) (n : Int) (i : Int) p (arrN g n) = k1 false (n : Int) (n : Int) (n : Int) p (arrN (iterF (fun i g => upd g i (pY p i)) j i g) n) := by
 intro j
 induction j with
 | zero =>
  intro i h fuel hf g hg
  obtain ⟨f, rfl⟩ : ∃ f, fuel = f + 1 := ⟨fuel - 1, by omega⟩
  show f26_2_st N (f26_2_lp N _ f) _ _ _ _ _ _ = _
  unfold f26_2_st
  rw [ltF (by omega), cond_false, show i = n by omega]
  rfl
 | succ j ih =>
  intro i h fuel hf g hg
  obtain ⟨f, rfl⟩ : ∃ f, fuel = f + 1 := ⟨fuel - 1, by omega⟩
  show f26_2_st N (f26_2_lp N _ f) _ _ _ _ _ _ = _
  unfold f26_2_st
  have e1 : List.take 32 (List.drop (Int.toNat (i : Int) * 64 + (0 + 32)) p) = ptY p i := rfl
  have hk : addN (vS (ptY p i)) (vS (List.replicate 32 (0 : Int))) = pY p i := by
   rw [b_zero', vS_sN ell_pos, addN_zero (vS_lt _)]; rfl
  have hz : okB (List.replicate 32 (0 : Int)) = true := by rw [b_zero']; exact okB_sN 0
  rw [ltT (show i < n by omega), rows64, hn, ge0, ltT (show i < n by omega), e1, okP_y hp (by omega), hz, hk, arr_rows, ltT (show i < n by omega), wAdd (by omega), toN, arr_set g _ (show i < n by omega)]
  simp only [Bool.and_self, cond_true]
  exact ih (i + 1) (by omega) f (by omega) _ (hg.upd (vS_lt _) _)
def downF {α : Type} (step : Nat → α → α) (k : Nat) : Nat → α → α
 | 0, g => g
 | m + 1, g => downF step k m (step (k + m) g)
theorem downF_inv {α : Type} {P : α → Prop} {step : Nat → α → α} (hs : ∀ i g, P g → P (step i g)) (k : Nat) : ∀ (m : Nat) (g : α), P g → P (downF step k m g)
 | 0, _, h => h
 | m + 1, g, h => downF_inv hs k m _ (hs _ g h)
def ddSt (X : Nat → Nat) (k i : Nat) (g : Nat → Nat) : Nat → Nat := upd g i (mulN (difN (g i) (g (i - 1))) (invN (difN (X i) (X (i - k)))))
theorem f26_dd {R : Type} {N : Nat} (k1 : Bool → Int → Int → Int → List Int → List Int → Option R) {p : List Int} {n k : Nat} (hp : okP p = true) (hn : p.length / 64 = n) (hb : n ≤ 30000) (hk : 1 ≤ k) :
  ∀ m : Nat, k + m ≤ n → ∀ fuel, m < fuel → ∀ g, LtE g → f26_6_lp N k1 fuel (n : Int) (k : Int) (((k + m : Nat) : Int) - 1) p (arrN g n) = k1 false (n : Int) (k : Int) ((k : Int) - 1) p (arrN (downF (ddSt (pX p) k) k m g) n) := by
 intro m
 induction m with
 | zero =>
  intro h fuel hf g hg
  obtain ⟨f, rfl⟩ : ∃ f, fuel = f + 1 := ⟨fuel - 1, by omega⟩
  show f26_6_st N (f26_6_lp N _ f) _ _ _ _ _ _ = _
  unfold f26_6_st
  rw [decide_eq_false (show ¬ (((k + 0 : Nat) : Int) - 1 ≥ (k : Int)) by omega), cond_false]
  rfl
 | succ m ih =>
  intro h fuel hf g hg
  obtain ⟨f, rfl⟩ : ∃ f, fuel = f + 1 := ⟨fuel - 1, by omega⟩
  show f26_6_st N (f26_6_lp N _ f) _ _ _ _ _ _ = _
  unfold f26_6_st
  rw [show ((k + (m + 1) : Nat) : Int) - 1 = ((k + m : Nat) : Int) by omega]
  have w1 : IntKind.i64.wrap (((k + m : Nat) : Int) - (k : Int)) = (m : Int) := by
   rw [show ((k + m : Nat) : Int) - (k : Int) = (m : Int) by omega]; exact wi64 (by omega)
  obtain ⟨q, hq⟩ : ∃ q, k + m = q + 1 := ⟨k + m - 1, by omega⟩
  have w2 : IntKind.i64.wrap (((k + m : Nat) : Int) - 1) = (q : Int) := by rw [hq]; exact wSub (by omega)
  have e1 : List.take 32 (List.drop (Int.toNat ((k + m : Nat) : Int) * 64 + (0 + 0)) p) = ptX p (k + m) := rfl
  have e2 : List.take 32 (List.drop (Int.toNat (m : Int) * 64 + (0 + 0)) p) = ptX p m := rfl
  have hz : okB (List.replicate 32 (0 : Int)) = true := by rw [b_zero']; exact okB_sN 0
  have hv0 : vS (List.replicate 32 (0 : Int)) = 0 := by rw [b_zero']; exact vS_sN ell_pos
  rw [w1, w2]
  dsimp only
  rw [decide_eq_true (show ((k + m : Nat) : Int) ≥ (k : Int) by omega), rows64, hn, ge0, ltT (show k + m < n by omega), ge0, ltT (show m < n by omega), e1, e2, okP_x hp (by omega), okP_x hp (by omega), okB_sN, vS_sN (difN_lt _ _),
   arr_rows, ge0, ltT (show q < n by omega), ltT (show k + m < n by omega), toN, toN, arr_el g (show k + m < n by omega), arr_el g (show q < n by omega), okB_sN, okB_sN, okB_sN, hz, okB_sN, vS_sN (hg _), vS_sN (hg _), vS_sN (difN_lt _ _), hv0, vS_sN (invN_lt _)]
  simp only [Bool.and_self, cond_true]
  rw [arr_set g _ (show k + m < n by omega), arr_set g _ (show k + m < n by omega)]
  have hstep : ddSt (pX p) k (k + m) g = upd g (k + m) (mulN (difN (g (k + m)) (g q)) (invN (difN (vS (ptX p (k + m))) (vS (ptX p m))))) := by
   unfold ddSt
   rw [show k + m - 1 = q by omega, show k + m - k = m by omega]; rfl
  have hd : downF (ddSt (pX p) k) k (m + 1) g = downF (ddSt (pX p) k) k m (ddSt (pX p) k (k + m) g) := rfl
  have hq2 : (q : Int) = ((k + m : Nat) : Int) - 1 := by omega
  rw [hd]
  by_cases h0 : difN (vS (ptX p (k + m))) (vS (ptX p m)) = 0
  ·
   rw [decide_eq_true h0, cond_true]
   rw [h0, invN_zero] at hstep
   rw [← hstep, hq2]
   exact ih (by omega) f (by omega) _ (hg.upd (mulN_lt _ _) _)
  ·
   rw [decide_eq_false h0, cond_false, ← hstep, hq2]
   exact ih (by omega) f (by omega) _ (hg.upd (mulN_lt _ _) _)
def ddPass (X : Nat → Nat) (n k : Nat) (g : Nat → Nat) : Nat → Nat := downF (ddSt X k) k (n - k) g
theorem ddPass_lt {X : Nat → Nat} {n k : Nat} {g : Nat → Nat} (h : LtE g) : LtE (ddPass X n k g) := downF_inv (fun i g h => h.upd (mulN_lt _ _) _) _ _ _ h
theorem f26_passes {R : Type} {N : Nat} (k1 : Bool → Int → Int → List Int → List Int → Option R) {p : List Int} {n : Nat} (hp : okP p = true) (hn : p.length / 64 = n) (hb : n ≤ 30000) (hN : n < N) (h1n : 1 ≤ n) :
  ∀ j k : Nat, k + j = n → 1 ≤ k → ∀ fuel, j < fuel → ∀ g, LtE g → f26_4_lp N k1 fuel (n : Int) (k : Int) p (arrN g n) = k1 false (n : Int) (n : Int) p (arrN (iterF (ddPass (pX p) n) j k g) n) := by
 intro j
 induction j with
 | zero =>
  intro k h hk fuel hf g hg
  obtain ⟨f, rfl⟩ : ∃ f, fuel = f + 1 := ⟨fuel - 1, by omega⟩
  show f26_4_st N (f26_4_lp N _ f) _ _ _ _ _ = _
  unfold f26_4_st
  rw [ltF (by omega), cond_false, show k = n by omega]
  rfl
 | succ j ih =>
  intro k h hk fuel hf g hg
  obtain ⟨f, rfl⟩ : ∃ f, fuel = f + 1 := ⟨fuel - 1, by omega⟩
  show f26_4_st N (f26_4_lp N _ f) _ _ _ _ _ = _
  unfold f26_4_st
  obtain ⟨q, hq⟩ : ∃ q, n = q + 1 := ⟨n - 1, by omega⟩
  have w2 : IntKind.i64.wrap ((n : Int) - 1) = ((k + (n - k) : Nat) : Int) - 1 := by
   rw [show ((k + (n - k) : Nat) : Int) - 1 = (q : Int) by omega, hq]; exact wSub (by omega)
  rw [ltT (show k < n by omega), cond_true, w2]
  refine (f26_dd _ hp hn hb hk (n - k) (by omega) N (by omega) g hg).trans ?_
  rw [wAdd (by omega)]
  exact ih (k + 1) (by omega) (by omega) f (by omega) _ (ddPass_lt hg)
def upSt (X : Nat → Nat) (k i : Nat) (g : Nat → Nat) : Nat → Nat := upd g i (difN (g (i - 1)) (mulN (g i) (X k)))
theorem f26_up {R : Type} {N : Nat} (k1 : Bool → Int → Int → Int → List Int → List Int → List Int → Option R) {p D : List Int} {n k : Nat} (hp : okP p = true) (hn : p.length / 64 = n) (hb : n ≤ 30000) (hk : k < n) :
  ∀ m : Nat, m + 1 ≤ n → ∀ fuel, m < fuel → ∀ g, LtE g → f26_10_lp N k1 fuel (n : Int) (k : Int) (m : Int) p D (arrN g n) = k1 false (n : Int) (k : Int) 0 p D (arrN (downF (upSt (pX p) k) 1 m g) n) := by
 intro m
 induction m with
 | zero =>
  intro h fuel hf g hg
  obtain ⟨f, rfl⟩ : ∃ f, fuel = f + 1 := ⟨fuel - 1, by omega⟩
  show f26_10_st N (f26_10_lp N _ f) _ _ _ _ _ _ _ = _
  unfold f26_10_st
  rw [decide_eq_false (show ¬ (((0 : Nat) : Int) > 0) by omega), cond_false]
  rfl
 | succ m ih =>
  intro h fuel hf g hg
  obtain ⟨f, rfl⟩ : ∃ f, fuel = f + 1 := ⟨fuel - 1, by omega⟩
  show f26_10_st N (f26_10_lp N _ f) _ _ _ _ _ _ _ = _
  unfold f26_10_st
  have e1 : List.take 32 (List.drop (Int.toNat (k : Int) * 64 + (0 + 0)) p) = ptX p k := rfl
  rw [decide_eq_true (show ((m + 1 : Nat) : Int) > 0 by omega), wSub (by omega)]
  dsimp only
  rw [rows64, hn, ge0, ge0, ge0, ltT (show k < n by omega), arr_rows, ltT (show m < n by omega), ltT (show m + 1 < n by omega), toN, toN, e1, arr_el g (show m + 1 < n by omega), arr_el g (show m < n by omega), okP_x hp (by omega), okB_sN, okB_sN, okB_sN, vS_sN (hg _), vS_sN (hg _), vS_sN (mulN_lt _ _), arr_set g _ (show m + 1 < n by omega)]
  simp only [Bool.and_self, cond_true]
  have hstep : upSt (pX p) k (1 + m) g = upd g (m + 1) (difN (g m) (mulN (g (m + 1)) (vS (ptX p k)))) := by
   unfold upSt
   rw [show 1 + m - 1 = m by omega, show 1 + m = m + 1 by omega]; rfl
  have hd : downF (upSt (pX p) k) 1 (m + 1) g = downF (upSt (pX p) k) 1 m (upSt (pX p) k (1 + m) g) := rfl
  rw [hd, hstep]
  exact ih (by omega) f (by omega) _ (hg.upd (difN_lt _ _) _)
def outSt (X D : Nat → Nat) (n k : Nat) (g : Nat → Nat) : Nat → Nat :=
 upd (downF (upSt X k) 1 (n - 1) g) 0 (difN (D k) (mulN (downF (upSt X k) 1 (n - 1) g 0) (X k)))
theorem outSt_lt {X D : Nat → Nat} {n k : Nat} {g : Nat → Nat} (h : LtE g) : LtE (outSt X D n k g) := (downF_inv (P := LtE) (fun i g h => h.upd (difN_lt _ _) _) _ _ _ h).upd (difN_lt _ _) _
theorem f26_outs {R : Type} {N : Nat} (k1 : Bool → Int → Int → List Int → List Int → List Int → Option R) {p : List Int} {D : Nat → Nat} {n : Nat} (hp : okP p = true) (hn : p.length / 64 = n) (hb : n ≤ 30000) (hN : n < N) (h1n : 1 ≤ n) (hD : LtE D) :
  ∀ m : Nat, m ≤ n → ∀ fuel, m < fuel → ∀ g, LtE g → f26_8_lp N k1 fuel (n : Int) ((m : Int) - 1) p (arrN D n) (arrN g n) = k1 false (n : Int) (-1) p (arrN D n) (arrN (downF (outSt (pX p) D n) 0 m g) n) := by
 intro m
 induction m with
 | zero =>
  intro h fuel hf g hg
  obtain ⟨f, rfl⟩ : ∃ f, fuel = f + 1 := ⟨fuel - 1, by omega⟩
  show f26_8_st N (f26_8_lp N _ f) _ _ _ _ _ _ = _
  unfold f26_8_st
  rw [decide_eq_false (show ¬ (((0 : Nat) : Int) - 1 ≥ 0) by omega), cond_false]
  rfl
 | succ m ih =>
  intro h fuel hf g hg
  obtain ⟨f, rfl⟩ : ∃ f, fuel = f + 1 := ⟨fuel - 1, by omega⟩
  show f26_8_st N (f26_8_lp N _ f) _ _ _ _ _ _ = _
  unfold f26_8_st
  obtain ⟨q, hq⟩ : ∃ q, n = q + 1 := ⟨n - 1, by omega⟩
  have w2 : IntKind.i64.wrap ((n : Int) - 1) = ((n - 1 : Nat) : Int) := by
   rw [show ((n - 1 : Nat) : Int) = (q : Int) by omega, hq]; exact wSub (by omega)
  have g1lt : LtE (downF (upSt (pX p) m) 1 (n - 1) g) := downF_inv (P := LtE) (fun i g h => h.upd (difN_lt _ _) _) _ _ _ hg
  rw [show ((m + 1 : Nat) : Int) - 1 = (m : Int) by omega, decide_eq_true (show (m : Int) ≥ 0 by omega), cond_true, w2]
  refine (f26_up _ hp hn hb (show m < n by omega) (n - 1) (by omega) N (by omega) g hg).trans ?_
  have e1 : List.take 32 (List.drop (Int.toNat (m : Int) * 64 + (0 + 0)) p) = ptX p m := rfl
  have w3 : IntKind.i64.wrap ((m : Int) - 1) = (m : Int) - 1 := wrapI (by omega) (by omega)
  have e0 : mulE (Int.toNat 0) 32 = 0 * 32 := rfl
  rw [rows64, hn, ge0, ltT (show m < n by omega), arr_rows, arr_rows, ltT (show m < n by omega), show decide ((0 : Nat) ≤ 0) = true from rfl, decide_eq_true (show (0 : Int) < (n : Int) by omega), e1, e0, toN, arr_el _ (show 0 < n by omega), arr_el D (show m < n by omega), okP_x hp (by omega), okB_sN, okB_sN, okB_sN,
   vS_sN (hD _), vS_sN (g1lt _), vS_sN (mulN_lt _ _), arr_set _ _ (show 0 < n by omega), w3]
  simp only [Bool.and_self, cond_true]
  have hstep : outSt (pX p) D n (0 + m) g = upd (downF (upSt (pX p) m) 1 (n - 1) g) 0 (difN (D m) (mulN (downF (upSt (pX p) m) 1 (n - 1) g 0) (vS (ptX p m)))) := by
   unfold outSt
   rw [show 0 + m = m by omega]; rfl
  have hd : downF (outSt (pX p) D n) 0 (m + 1) g = downF (outSt (pX p) D n) 0 m (outSt (pX p) D n (0 + m) g) := rfl
  rw [hd, ← hstep]
  exact ih (by omega) f (by omega) _ (outSt_lt hg)
def ysG (Y : Nat → Nat) (n : Nat) : Nat → Nat := iterF (fun i g => upd g i (Y i)) n 0 (fun _ => 0)
def ddG (X Y : Nat → Nat) (n : Nat) : Nat → Nat := iterF (ddPass X n) (n - 1) 1 (ysG Y n)
def newtG (X Y : Nat → Nat) (n : Nat) : Nat → Nat := downF (outSt X (ddG X Y n) n) 0 n (fun _ => 0)
theorem ysG_lt {Y : Nat → Nat} (h : LtE Y) (n : Nat) : LtE (ysG Y n) := iterF_inv (fun i g hg => hg.upd (h i) _) _ _ _ ltE_zero
theorem ddG_lt {X Y : Nat → Nat} (h : LtE Y) (n : Nat) : LtE (ddG X Y n) := iterF_inv (fun i g hg => ddPass_lt hg) _ _ _ (ysG_lt h n)
theorem newtG_lt (X Y : Nat → Nat) (n : Nat) : LtE (newtG X Y n) := downF_inv (fun i g hg => outSt_lt hg) _ _ _ ltE_zero
def badP (p : List Int) : Bool := decide (p.length / 64 = 0) || decide (p.length / 64 > 255)
def I26 : (R : Type) → List DV → (List DV → Option R) → Option R := fun _ ds k => match ds with
 | [.lst (.mix l) 64 p] => match cksEq l ck105 with
  | true => bif okP p then (bif badP p then k [.lst (.one .u8) 32 [], .v (.one (.int .i64 8))] else bif dupsP p then k [.lst (.one .u8) 32 [], .v (.one (.int .i64 5))]
    else k [.lst (.one .u8) 32 (arrN (newtG (pX p) (pY p) (p.length / 64)) (p.length / 64)), .v (.one (.int .i64 0))]) else none
  | false => none
 | _ => none
theorem c26 : Contract Tryz.prog 26 { sig := S26, impl := I26 } := by
 refine Contract.refine fun R ds k r h => ?_
 unfold I26 at h
 split at h
 ·
  rename_i l p
  refine ⟨_, f26_contract (p.length / 64 + 2) GT2_ok, ?_⟩
  split at h
  ·
   rename_i hl
   have hl := cksEq_iff.1 hl
   subst hl
   cases hc : okP p with
   | false => rw [hc] at h; cases h
   | true =>
    rw [hc, cond_true] at h
    have hlen := okP_n hc
    show call (E26 (p.length / 64 + 2)) S26 161 B26 R26 [DV.lst (RK.mix ck105) 64 p] k = some r
    rw [f26_raw_eq]
    unfold f26_raw
    rw [rows64]
    generalize hn : p.length / 64 = n at *
    unfold badP dupsP at h
    rw [hn] at h
    by_cases h0 : n = 0
    ·
     rw [decide_eq_true h0, Bool.true_or, cond_true] at h
     subst h0
     exact h
    ·
     have e0 : ((n : Int) == 0) = false := by simp; omega
     rw [e0, cond_false]
     dsimp only
     rw [decide_eq_false h0, Bool.false_or] at h
     have e1 : decide ((n : Int) > 255) = decide (n > 255) := by rw [Bool.eq_iff_iff]; simp; omega
     rw [cond_false, e1]
     cases h5 : decide (n > 255) with
     | true => rw [h5] at h; exact h
     | false =>
      rw [h5, cond_false] at h
      rw [cond_false]
      have h5 := of_decide_eq_false h5
      refine (f26_seen _ _ hc hn (by omega) n 0 (by omega) (n + 2) (by omega)).trans ?_
      cases hd : dupAll (keyP p) n 0 with
      | true => rw [hd] at h; exact h
      | false =>
       rw [hd, cond_false] at h
       rw [cond_false]
       have e2 : (decide (0 ≤ (n : Int)) && (decide ((n : Int) ≤ (n : Int)) && (decide ((n : Int) ≤ 281474976710656) && decide ((n : Int) * 32 ≤ 281474976710656)))) = true := by
        simp only [Bool.and_eq_true, decide_eq_true_eq]; omega
       rw [rows64, hn, e2, cond_true, toN, arr_zero]
       refine (f26_ys _ hc hn (by omega) n 0 (by omega) (n + 2) (by omega) _ ltE_zero).trans ?_
       refine (f26_passes _ hc hn (by omega) (by omega) (by omega) (n - 1) 1 (by omega) (by omega) (n + 2) (by omega) _ (ysG_lt (pY_lt p) n)).trans ?_
       rw [e2, cond_true, toN, arr_zero]
       have w2 : IntKind.i64.wrap ((n : Int) - 1) = (n : Int) - 1 := wrapI (by omega) (by omega)
       rw [w2]
       refine (f26_outs _ hc hn (by omega) (by omega) (by omega) (ddG_lt (pY_lt p) n) n (Nat.le_refl n) (n + 2) (by omega) _ ltE_zero).trans ?_
       exact h
  ·
   cases h
 ·
  cases h
end
end Go.Proofs.YtogcijgklnfjjaaGreat
namespace Go.Proofs.YtogcijgklnfjjaaGreat
noncomputable section
open Go Go.Eng Go.ChangeShapes Go.WideShapes Go.RowKit
set_option maxRecDepth 100000
set_option linter.unusedVariables false
theorem own0 : ownKnob Tryz.prog.godebug = none := by kernel_rfl
theorem laidOut : laidOutB Tryz.prog = true := by kernel_rfl
theorem wf_u8 {y : Int} (h : (Lit.int .u8 y).wf = true) : 0 ≤ y ∧ y < 256 := by
 have := bounds_u8 h; omega
theorem bulk_one {H : Type} (d : DataW H) : 1 ≤ Rows.uptoBulk d := by
 cases d with
 | lit l => cases l <;> simp [Rows.uptoBulk]
 | nil => simp [Rows.uptoBulk]
 | ptr d => simp [Rows.uptoBulk]
 | slice elems spare => simp [Rows.uptoBulk]
 | agg parts => simp [Rows.uptoBulk]
 | iface t d => simp [Rows.uptoBulk]
 | map entries => simp [Rows.uptoBulk]
 | held h => simp [Rows.uptoBulk]
theorem bulk_length {H : Type} (l : List (DataW H)) : l.length ≤ Rows.uptoBulkAll l := by
 induction l with
 | nil => simp [Rows.uptoBulkAll]
 | cons x r ih => have := bulk_one x; simp only [Rows.uptoBulkAll, List.length_cons]; omega
theorem bulk_slice {H : Type} {d : DataW H} {len : Nat} (h : (d = .nil ∧ len = 0) ∨ ∃ elems spare, d = .slice elems spare ∧ elems.length = len) : len ≤ Rows.uptoBulk d := by
 rcases h with ⟨rfl, rfl⟩ | ⟨elems, spare, rfl, rfl⟩
 ·
  exact Nat.zero_le _
 ·
  have := bulk_length elems
  simp only [Rows.uptoBulk]; omega
theorem bulk_bound {H : Type} {l : List (DataW H)} (hk : Rows.uptoSmall H l = true) : Rows.uptoBulkAll l ≤ 1048576 := of_decide_eq_true hk
theorem elSc (H : Type) (enc : TypeId × Value → H) : IntEl H enc Tryz.prog 54 .u8 32 := intEl_array Tryz.underlying54 (by kernel_rfl) (by omega) (intEl_int Tryz.underlying5 (by kernel_rfl))
theorem elInt (H : Type) (enc : TypeId × Value → H) : IntEl H enc Tryz.prog 3 .i64 1 := intEl_int Tryz.underlying3 (by kernel_rfl)
theorem ck78_at : ∀ j, j < 33 → ckAt ck78 j = if j < 1 then .int .i64 else .int .u8 := fun j hj => ckEq_iff.1 ((by decide : ∀ j, j < 33 → ckEq (ckAt ck78 j) (if j < 1 then .int .i64 else .int .u8) = true) j hj)
theorem elSh (H : Type) (enc : TypeId × Value → H) : MixEl H enc Tryz.prog 78 ck78 33 := mixEl_struct2 Tryz.underlying78 (by kernel_rfl) (elInt H enc) (elSc H enc) rfl rfl rfl (by decide) ck78_at
theorem okB_row {x : List Int} (hl : x.length = 32) (hw : ∀ y ∈ x, (Lit.int .u8 y).wf = true) : okB x = true := by
 unfold okB
 rw [decide_eq_true hl, Bool.true_and, List.all_eq_true]
 intro b hb
 have := wf_u8 (hw b hb)
 rw [Bool.and_eq_true]
 exact ⟨decide_eq_true this.1, decide_eq_true this.2⟩
end
end Go.Proofs.YtogcijgklnfjjaaGreat
namespace Go.Proofs.YtogcijgklnfjjaaGreat
noncomputable section
open Go Go.Eng
set_option maxRecDepth 100000
set_option linter.unusedVariables false
def f77_0_sh : Shp := ⟨19, 1, [(3, .one (.fix (.own 1000003))), (6, .one (.fix (.own 0))), (7, .one (.int .i64)), (8, .one (.int .i64))], [(1000003, .row (.one .u8) 32), (0, .view (.one .i64) 1)]⟩
def f77_0_ex1 : Shp := ⟨19, 1, [(9, .one .bool), (3, .one (.fix (.own 1000003))), (6, .one (.fix (.own 0))), (7, .one (.int .i64)), (8, .one (.int .i64))], [(1000003, .row (.one .u8) 32), (0, .view (.one .i64) 1)]⟩
def f77_0_st {R : Type} (N : Nat) (self : Int → Int → List Int → List Int → Option R) (k1 : Bool → Int → Int → List Int → List Int → Option R) (x1 x2 : Int) (x3 x4 : List Int) : Option R :=
 bif decide (x2 < x1) then
 bif decide (0 ≤ x2) && decide (x2 < nI (rowLen 1 x4)) then
 let v0 := splice (zerosOf (1 * 32)) (.at (0 * 32)) (sN (plN (x4.getD (mulE x2.toNat 1) 0)));
 bif ((2 * (rowLen 32 x3 + rowLen 32 v0) + 192) * 32).ble big48 && (rowLen 32 x3 + rowLen 32 v0).ble big48 then
 let v1 := IntKind.i64.wrap (x2 + 1);
 let v2 : List Int := x3 ++ v0;
 self x1 v1 v2 x4
 else none
 else none
else k1 (decide (x2 < x1)) x1 x2 x3 x4
def f77_0_lp {R : Type} (N : Nat) (k1 : Bool → Int → Int → List Int → List Int → Option R) : Nat → Int → Int → List Int → List Int → Option R
 | 0, _, _, _, _ => none
 | n + 1, x1, x2, x3, x4 => f77_0_st N (f77_0_lp N k1 n) k1 x1 x2 x3 x4
def f77_0_F (N : Nat) : (R : Type) → List Leaf → (X → AS → Option R) → Option R := fun _ ls K => match ls with
 | [.i x1, .i x2, .l x3, .l x4] => f77_0_lp N (fun y1 y2 y3 y4 y5 => K .normal (fill f77_0_ex1 [.b y1, .i y2, .i y3, .l y4, .l y5])) N x1 x2 x3 x4
 | _ => none
def f77_raw {R : Type} (N : Nat) (xs : List Int) (k : List DV → Option R) : Option R :=
 f77_0_lp N (fun w0_1 w0_2 w0_3 w0_4 w0_5 => k [.lst (.one .u8) 32 w0_4]) N (nI (rowLen 1 xs)) 0 [] xs
def E77 (N : Nat) : Env := { Θ := Th, Γ := [(68, { sig := S68, impl := I68 })], K := K77, ν := N77, fuel := 0, lp := [(0, mkL N77_0 f77_0_sh (f77_0_F N))] }
theorem f77_0_st_eq {R : Type} (N : Nat) (K : X → AS → Option R) (n : Nat) (x1 x2 : Int) (x3 x4 : List Int) : roundsOf (E77 N) N77_0 0 B77_0 K (n + 1) (fill f77_0_sh [.i x1, .i x2, .l x3, .l x4]) = f77_0_st N (fun x1 x2 x3 x4 => roundsOf (E77 N) N77_0 0 B77_0 K n (fill f77_0_sh [.i x1, .i x2, .l x3, .l x4])) (fun y1 y2 y3 y4 y5 => K .normal (fill f77_0_ex1 [.b y1, .i y2, .i y3, .l y4, .l y5])) x1 x2 x3 x4 := by kernel_rfl
theorem f77_0_lp_eq {R : Type} (N : Nat) (K : X → AS → Option R) : ∀ (n : Nat) (x1 x2 : Int) (x3 x4 : List Int), roundsOf (E77 N) N77_0 0 B77_0 K n (fill f77_0_sh [.i x1, .i x2, .l x3, .l x4]) = f77_0_lp N (fun y1 y2 y3 y4 y5 => K .normal (fill f77_0_ex1 [.b y1, .i y2, .i y3, .l y4, .l y5])) n x1 x2 x3 x4
 | 0, _, _, _, _ => rfl
 | n + 1, x1, x2, x3, x4 => by
  rw [f77_0_st_eq, f77_0_lp, show (fun x1 x2 x3 x4 => roundsOf (E77 N) N77_0 0 B77_0 K n (fill f77_0_sh [.i x1, .i x2, .l x3, .l x4])) = f77_0_lp N (fun y1 y2 y3 y4 y5 => K .normal (fill f77_0_ex1 [.b y1, .i y2, .i y3, .l y4, .l y5])) n from by funext x1 x2 x3 x4; exact f77_0_lp_eq N K n x1 x2 x3 x4]
theorem f77_0_ok (N : Nat) (hlp : LoopsOk Tryz.prog (E77 N).lp B77_0) (hΓ : CtxOk Tryz.prog (E77 N).Γ) : LoopOk Tryz.prog (mkL N77_0 f77_0_sh (f77_0_F N)) 0 B77_0 := by
 refine loopOk_of (E := E77 N) thOk hΓ mixed hlp ?_
 intro R ls K r h
 unfold f77_0_F at h
 split at h
 ·
  exact ⟨N, by rw [f77_0_lp_eq]; exact h⟩
 ·
  cases h
theorem lok77_0 (N : Nat) (hΓ : CtxOk Tryz.prog [(68, { sig := S68, impl := I68 })]) : LoopOk Tryz.prog (mkL N77_0 f77_0_sh (f77_0_F N)) 0 B77_0 := f77_0_ok N (loopsOk_of (l := []) (by kernel_rfl) trivial) hΓ
theorem f77_contract (N : Nat) (hΓ : CtxOk Tryz.prog [(68, { sig := S68, impl := I68 })]) : Contract Tryz.prog 77 { sig := S77, impl := fun _ ds k => call (E77 N) S77 19 B77 R77 ds k } :=
 call_contract (E := E77 N) thOk hΓ mixed ok77.look ok77.body ok77.n ok77.rv ok77.name rfl (by decide) (loopsOk_of (l := [(0, B77_0)]) (by kernel_rfl) (allOk_cons (L := mkL N77_0 f77_0_sh (f77_0_F N)) rfl (lok77_0 N hΓ) trivial))
theorem f77_raw_eq {R : Type} (N : Nat) (xs : List Int) (k : List DV → Option R) : call (E77 N) S77 19 B77 R77 [.lst (.one .i64) 1 xs] k = f77_raw N xs k := by kernel_rfl
def f108_0_sh : Shp := ⟨19, 2, [(0, .one (.fix (.own 0))), (1, .one (.int .i64)), (7, .one (.int .i64)), (8, .one (.int .i64))], [(0, .view (.one .i64) 1)]⟩
def f108_0_ex1 : Shp := ⟨19, 2, [(4, .one (.int .i64)), (16, .one .bool), (5, .one (.int .i64)), (9, .one .bool), (0, .one (.fix (.own 0))), (1, .one (.int .i64)), (7, .one (.int .i64)), (8, .one (.int .i64))], [(0, .view (.one .i64) 1)]⟩
def f108_0_ex2 : Shp := ⟨19, 2, [(9, .one .bool), (0, .one (.fix (.own 0))), (1, .one (.int .i64)), (7, .one (.int .i64)), (8, .one (.int .i64))], [(0, .view (.one .i64) 1)]⟩
def f108_0_st {R : Type} (N : Nat) (self : Int → Int → Int → List Int → Option R) (k1 : Int → Bool → Int → Bool → Int → Int → Int → List Int → Option R) (k2 : Bool → Int → Int → Int → List Int → Option R) (x1 x2 x3 : Int) (x4 : List Int) : Option R :=
 bif decide (x3 < x2) then
 bif decide (0 ≤ x3) && decide (x3 < nI (rowLen 1 x4)) then
 bif x1 == x4.getD (mulE x3.toNat 1) 0 then k1 x3 (x1 == x4.getD (mulE x3.toNat 1) 0) x3 (decide (x3 < x2)) x1 x2 x3 x4
 else
 let v0 := IntKind.i64.wrap (x3 + 1);
 self x1 x2 v0 x4
 else none
else k2 (decide (x3 < x2)) x1 x2 x3 x4
def f108_0_lp {R : Type} (N : Nat) (k1 : Int → Bool → Int → Bool → Int → Int → Int → List Int → Option R) (k2 : Bool → Int → Int → Int → List Int → Option R) : Nat → Int → Int → Int → List Int → Option R
 | 0, _, _, _, _ => none
 | n + 1, x1, x2, x3, x4 => f108_0_st N (f108_0_lp N k1 k2 n) k1 k2 x1 x2 x3 x4
def f108_0_F (N : Nat) : (R : Type) → List Leaf → (X → AS → Option R) → Option R := fun _ ls K => match ls with
 | [.i x1, .i x2, .i x3, .l x4] => f108_0_lp N (fun y1 y2 y3 y4 y5 y6 y7 y8 => K (.ret) (fill f108_0_ex1 [.i y1, .b y2, .i y3, .b y4, .i y5, .i y6, .i y7, .l y8])) (fun y1 y2 y3 y4 y5 => K .normal (fill f108_0_ex2 [.b y1, .i y2, .i y3, .i y4, .l y5])) N x1 x2 x3 x4
 | _ => none
def f108_raw {R : Type} (N : Nat) (xs : List Int) (x : Int) (k : List DV → Option R) : Option R :=
 f108_0_lp N (fun w0_1 w0_2 w0_3 w0_4 w0_5 w0_6 w0_7 w0_8 => k [.v (.one (.int .i64 w0_1))]) (fun w1_1 w1_2 w1_3 w1_4 w1_5 => k [.v (.one (.int .i64 (-1)))]) N x (nI (rowLen 1 xs)) 0 xs
def E108 (N : Nat) : Env := { Θ := Th, Γ := GT2, K := K108, ν := N108, fuel := 0, lp := [(0, mkL N108_0 f108_0_sh (f108_0_F N))] }
theorem f108_0_st_eq {R : Type} (N : Nat) (K : X → AS → Option R) (n : Nat) (x1 x2 x3 : Int) (x4 : List Int) : roundsOf (E108 N) N108_0 0 B108_0 K (n + 1) (fill f108_0_sh [.i x1, .i x2, .i x3, .l x4]) = f108_0_st N (fun x1 x2 x3 x4 => roundsOf (E108 N) N108_0 0 B108_0 K n (fill f108_0_sh [.i x1, .i x2, .i x3, .l x4])) (fun y1 y2 y3 y4 y5 y6 y7 y8 => K (.ret) (fill f108_0_ex1 [.i y1, .b y2, .i y3, .b y4, .i y5, .i y6, .i y7, .l y8])) (fun y1 y2 y3 y4 y5 => K .normal (fill f108_0_ex2 [.b y1, .i y2, .i y3, .i y4, .l y5])) x1 x2 x3 x4 := by kernel_rfl
theorem f108_0_lp_eq {R : Type} (N : Nat) (K : X → AS → Option R) : ∀ (n : Nat) (x1 x2 x3 : Int) (x4 : List Int), roundsOf (E108 N) N108_0 0 B108_0 K n (fill f108_0_sh [.i x1, .i x2, .i x3, .l x4]) = f108_0_lp N (fun y1 y2 y3 y4 y5 y6 y7 y8 => K (.ret) (fill f108_0_ex1 [.i y1, .b y2, .i y3, .b y4, .i y5, .i y6, .i y7, .l y8])) (fun y1 y2 y3 y4 y5 => K .normal (fill f108_0_ex2 [.b y1, .i y2, .i y3, .i y4, .l y5])) n x1 x2 x3 x4
 | 0, _, _, _, _ => rfl
 | n + 1, x1, x2, x3, x4 => by
  rw [f108_0_st_eq, f108_0_lp, show (fun x1 x2 x3 x4 => roundsOf (E108 N) N108_0 0 B108_0 K n (fill f108_0_sh [.i x1, .i x2, .i x3, .l x4])) = f108_0_lp N (fun y1 y2 y3 y4 y5 y6 y7 y8 => K (.ret) (fill f108_0_ex1 [.i y1, .b y2, .i y3, .b y4, .i y5, .i y6, .i y7, .l y8])) (fun y1 y2 y3 y4 y5 => K .normal (fill f108_0_ex2 [.b y1, .i y2, .i y3, .i y4, .l y5])) n from by funext x1 x2 x3 x4; exact f108_0_lp_eq N K n x1 x2 x3 x4]
theorem f108_0_ok (N : Nat) (hlp : LoopsOk Tryz.prog (E108 N).lp B108_0) (hΓ : CtxOk Tryz.prog (E108 N).Γ) : LoopOk Tryz.prog (mkL N108_0 f108_0_sh (f108_0_F N)) 0 B108_0 := by
 refine loopOk_of (E := E108 N) thOk hΓ mixed hlp ?_
 intro R ls K r h
 unfold f108_0_F at h
 split at h
 ·
  exact ⟨N, by rw [f108_0_lp_eq]; exact h⟩
 ·
  cases h
theorem lok108_0 (N : Nat) (hΓ : CtxOk Tryz.prog GT2) : LoopOk Tryz.prog (mkL N108_0 f108_0_sh (f108_0_F N)) 0 B108_0 := f108_0_ok N (loopsOk_of (l := []) (by kernel_rfl) trivial) hΓ
theorem f108_contract (N : Nat) (hΓ : CtxOk Tryz.prog GT2) : Contract Tryz.prog 108 { sig := S108, impl := fun _ ds k => call (E108 N) S108 19 B108 R108 ds k } :=
 call_contract (E := E108 N) thOk hΓ mixed ok108.look ok108.body ok108.n ok108.rv ok108.name rfl (by decide) (loopsOk_of (l := [(0, B108_0)]) (by kernel_rfl) (allOk_cons (L := mkL N108_0 f108_0_sh (f108_0_F N)) rfl (lok108_0 N hΓ) trivial))
theorem f108_raw_eq {R : Type} (N : Nat) (xs : List Int) (x : Int) (k : List DV → Option R) : call (E108 N) S108 19 B108 R108 [.lst (.one .i64) 1 xs, .v (.one (.int .i64 x))] k = f108_raw N xs x k := by kernel_rfl
def f110_raw {R : Type} (N : Nat) (t : Int) (k : List DV → Option R) : Option R :=
 bif decide (t < 1) then k [.v (.one (.int .i64 7))]
else
 let v0 : Bool := bif false then true else decide (t > 255);
 bif v0 then k [.v (.one (.int .i64 7))] else k [.v (.one (.int .i64 0))]
def E110 (N : Nat) : Env := { Θ := Th, Γ := GT2, K := K110, ν := N110, fuel := 0, lp := [] }
theorem f110_contract (N : Nat) (hΓ : CtxOk Tryz.prog GT2) : Contract Tryz.prog 110 { sig := S110, impl := fun _ ds k => call (E110 N) S110 9 B110 R110 ds k } :=
 call_contract (E := E110 N) thOk hΓ mixed ok110.look ok110.body ok110.n ok110.rv ok110.name rfl (by decide) (loopsOk_of (l := []) (by kernel_rfl) trivial)
theorem f110_raw_eq {R : Type} (N : Nat) (t : Int) (k : List DV → Option R) : call (E110 N) S110 9 B110 R110 [.v (.one (.int .i64 t))] k = f110_raw N t k := by kernel_rfl
def f102_0_sh : Shp := ⟨31, 1, [(4, .one (.fix (.own 1000004))), (5, .one (.fix (.own 1000005))), (8, .one (.fix (.own 0))), (9, .one (.int .i64)), (10, .one (.int .i64))], [(1000004, .row (.one .i64) 1), (1000005, .row (.mix ck105) 64), (0, .view (.mix ck78) 33)]⟩
def f102_0_ex1 : Shp := ⟨31, 1, [(11, .one .bool), (4, .one (.fix (.own 1000004))), (5, .one (.fix (.own 1000005))), (8, .one (.fix (.own 0))), (9, .one (.int .i64)), (10, .one (.int .i64))], [(1000004, .row (.one .i64) 1), (1000005, .row (.mix ck105) 64), (0, .view (.mix ck78) 33)]⟩
def f102_0_st {R : Type} (N : Nat) (self : Int → Int → List Int → List Int → List Int → Option R) (k1 : Bool → Int → Int → List Int → List Int → List Int → Option R) (x1 x2 : Int) (x3 x4 x5 : List Int) : Option R :=
 bif decide (x2 < x1) then
 bif decide (0 ≤ x2) && decide (x2 < nI (rowLen 33 x5)) then
 let v0 : List Int := (zerosOf (1 * 1)).set 0 (x5.getD (x2.toNat * 33 + 0) 0);
 bif ((2 * (rowLen 1 x3 + rowLen 1 v0) + 192) * 8).ble big48 && (rowLen 1 x3 + rowLen 1 v0).ble big48 then
 let v1 := List.take 32 (List.drop (x2.toNat * 33 + (0 + 1)) x5) ++ [];
 let v2 : List Int := sN (plN (x5.getD (x2.toNat * 33 + 0) 0)) ++ v1;
 let v3 : List Int := v2 ++ [];
 bif ((2 * (rowLen 64 x4 + rowLen 64 v3) + 192) * 64).ble big48 && (rowLen 64 x4 + rowLen 64 v3).ble big48 then
 let v4 := IntKind.i64.wrap (x2 + 1);
 let v5 : List Int := x3 ++ v0;
 let v6 : List Int := x4 ++ v3;
 self x1 v4 v5 v6 x5
 else none
 else none
 else none
else k1 (decide (x2 < x1)) x1 x2 x3 x4 x5
def f102_0_lp {R : Type} (N : Nat) (k1 : Bool → Int → Int → List Int → List Int → List Int → Option R) : Nat → Int → Int → List Int → List Int → List Int → Option R
 | 0, _, _, _, _, _ => none
 | n + 1, x1, x2, x3, x4, x5 => f102_0_st N (f102_0_lp N k1 n) k1 x1 x2 x3 x4 x5
def f102_0_F (N : Nat) : (R : Type) → List Leaf → (X → AS → Option R) → Option R := fun _ ls K => match ls with
 | [.i x1, .i x2, .l x3, .l x4, .l x5] => f102_0_lp N (fun y1 y2 y3 y4 y5 y6 => K .normal (fill f102_0_ex1 [.b y1, .i y2, .i y3, .l y4, .l y5, .l y6])) N x1 x2 x3 x4 x5
 | _ => none
def f102_raw {R : Type} (N : Nat) (sh : List Int) (k : List DV → Option R) : Option R :=
 f102_0_lp N (fun w0_1 w0_2 w0_3 w0_4 w0_5 w0_6 => k [.lst (.one .i64) 1 w0_4, .lst (.mix ck105) 64 w0_5]) N (nI (rowLen 33 sh)) 0 [] [] sh
def E102 (N : Nat) : Env := { Θ := Th, Γ := GT2, K := K102, ν := N102, fuel := 0, lp := [(0, mkL N102_0 f102_0_sh (f102_0_F N))] }
theorem f102_0_st_eq {R : Type} (N : Nat) (K : X → AS → Option R) (n : Nat) (x1 x2 : Int) (x3 x4 x5 : List Int) : roundsOf (E102 N) N102_0 0 B102_0 K (n + 1) (fill f102_0_sh [.i x1, .i x2, .l x3, .l x4, .l x5]) = f102_0_st N (fun x1 x2 x3 x4 x5 => roundsOf (E102 N) N102_0 0 B102_0 K n (fill f102_0_sh [.i x1, .i x2, .l x3, .l x4, .l x5])) (fun y1 y2 y3 y4 y5 y6 => K .normal (fill f102_0_ex1 [.b y1, .i y2, .i y3, .l y4, .l y5, .l y6])) x1 x2 x3 x4 x5 := by kernel_rfl
theorem f102_0_lp_eq {R : Type} (N : Nat) (K : X → AS → Option R) : ∀ (n : Nat) (x1 x2 : Int) (x3 x4 x5 : List Int), roundsOf (E102 N) N102_0 0 B102_0 K n (fill f102_0_sh [.i x1, .i x2, .l x3, .l x4, .l x5]) = f102_0_lp N (fun y1 y2 y3 y4 y5 y6 => K .normal (fill f102_0_ex1 [.b y1, .i y2, .i y3, .l y4, .l y5, .l y6])) n x1 x2 x3 x4 x5
 | 0, _, _, _, _, _ => rfl
 | n + 1, x1, x2, x3, x4, x5 => by
  rw [f102_0_st_eq, f102_0_lp, show (fun x1 x2 x3 x4 x5 => roundsOf (E102 N) N102_0 0 B102_0 K n (fill f102_0_sh [.i x1, .i x2, .l x3, .l x4, .l x5])) = f102_0_lp N (fun y1 y2 y3 y4 y5 y6 => K .normal (fill f102_0_ex1 [.b y1, .i y2, .i y3, .l y4, .l y5, .l y6])) n from by funext x1 x2 x3 x4 x5; exact f102_0_lp_eq N K n x1 x2 x3 x4 x5]
theorem f102_0_ok (N : Nat) (hlp : LoopsOk Tryz.prog (E102 N).lp B102_0) (hΓ : CtxOk Tryz.prog (E102 N).Γ) : LoopOk Tryz.prog (mkL N102_0 f102_0_sh (f102_0_F N)) 0 B102_0 := by
 refine loopOk_of (E := E102 N) thOk hΓ mixed hlp ?_
 intro R ls K r h
 unfold f102_0_F at h
 split at h
 ·
  exact ⟨N, by rw [f102_0_lp_eq]; exact h⟩
 ·
  cases h
theorem lok102_0 (N : Nat) (hΓ : CtxOk Tryz.prog GT2) : LoopOk Tryz.prog (mkL N102_0 f102_0_sh (f102_0_F N)) 0 B102_0 := f102_0_ok N (loopsOk_of (l := []) (by kernel_rfl) trivial) hΓ
theorem f102_contract (N : Nat) (hΓ : CtxOk Tryz.prog GT2) : Contract Tryz.prog 102 { sig := S102, impl := fun _ ds k => call (E102 N) S102 31 B102 R102 ds k } :=
 call_contract (E := E102 N) thOk hΓ mixed ok102.look ok102.body ok102.n ok102.rv ok102.name rfl (by decide) (loopsOk_of (l := [(0, B102_0)]) (by kernel_rfl) (allOk_cons (L := mkL N102_0 f102_0_sh (f102_0_F N)) rfl (lok102_0 N hΓ) trivial))
theorem f102_raw_eq {R : Type} (N : Nat) (sh : List Int) (k : List DV → Option R) : call (E102 N) S102 31 B102 R102 [.lst (.mix ck78) 33 sh] k = f102_raw N sh k := by kernel_rfl
def f76_2_sh : Shp := ⟨95, 2, [(0, .one (.fix (.own 0))), (3, .one (.fix (.ptr 3 0 .z 32))), (5, .one (.fix (.own 12))), (6, .one (.fix (.own 15))), (7, .one (.int .i64)), (17, .one (.int .i64)), (18, .one (.int .i64)), (30, .one (.int .i64)), (31, .one (.int .i64))], [(0, .view (.one .u8) 32), (3, .obj [.ints .u8 32]), (12, .row (.one .u8) 32), (15, .row (.one .u8) 32)]⟩
def f76_2_ex1 : Shp := ⟨95, 2, [(32, .one .bool), (0, .one (.fix (.own 0))), (3, .one (.fix (.ptr 3 0 .z 32))), (5, .one (.fix (.own 12))), (6, .one (.fix (.own 15))), (7, .one (.int .i64)), (17, .one (.int .i64)), (18, .one (.int .i64)), (30, .one (.int .i64)), (31, .one (.int .i64))], [(0, .view (.one .u8) 32), (3, .obj [.ints .u8 32]), (12, .row (.one .u8) 32), (15, .row (.one .u8) 32)]⟩
def f76_2_st {R : Type} (N : Nat) (self : Int → Int → Int → Int → Int → List Int → List Int → List Int → List Int → Option R) (k1 : Bool → Int → Int → Int → Int → Int → List Int → List Int → List Int → List Int → Option R) (x1 x2 : Int) (x3 x4 x5 : Int) (x6 x7 : List Int) (x8 x9 : List Int) : Option R :=
 bif decide (x5 < x4) then
 bif x5 != x1 then
 bif decide (0 ≤ x1) && decide (x1 < nI (rowLen 32 x8)) then
 bif decide (0 ≤ x5) && decide (x5 < nI (rowLen 32 x6)) then
 bif okB x7 && okB (List.take 32 (List.drop (mulE x5.toNat 32) x6)) then
 bif okB (List.take 32 (List.drop (mulE x1.toNat 32) x8)) && okB (sN (difN (vS x7) (vS (List.take 32 (List.drop (mulE x5.toNat 32) x6))))) then
 bif decide (0 ≤ x1) && decide (x1 < nI (rowLen 32 x8)) then
 bif decide (0 ≤ x1) && decide (x1 < nI (rowLen 32 x9)) then
 bif decide (0 ≤ x1) && decide (x1 < nI (rowLen 32 x6)) then
 bif decide (0 ≤ x5) && decide (x5 < nI (rowLen 32 x6)) then
 bif okB (List.take 32 (List.drop (mulE x1.toNat 32) x6)) && okB (List.take 32 (List.drop (mulE x5.toNat 32) x6)) then
 bif okB (List.take 32 (List.drop (mulE x1.toNat 32) x9)) && okB (sN (difN (vS (List.take 32 (List.drop (mulE x1.toNat 32) x6))) (vS (List.take 32 (List.drop (mulE x5.toNat 32) x6))))) then
 bif decide (0 ≤ x1) && decide (x1 < nI (rowLen 32 x9)) then
 let v0 := IntKind.i64.wrap (x5 + 1);
 let v1 := splice x8 (.at (mulE x1.toNat 32)) (sN (mulN (vS (List.take 32 (List.drop (mulE x1.toNat 32) x8))) (vS (sN (difN (vS x7) (vS (List.take 32 (List.drop (mulE x5.toNat 32) x6))))))));
 let v2 := splice x9 (.at (mulE x1.toNat 32)) (sN (mulN (vS (List.take 32 (List.drop (mulE x1.toNat 32) x9))) (vS (sN (difN (vS (List.take 32 (List.drop (mulE x1.toNat 32) x6))) (vS (List.take 32 (List.drop (mulE x5.toNat 32) x6))))))));
 self x1 x2 x3 x4 v0 x6 x7 v1 v2
 else none
 else none
 else none
 else none
 else none
 else none
 else none
 else none
 else none
 else none
 else none
 else
 let v3 := IntKind.i64.wrap (x5 + 1);
 self x1 x2 x3 x4 v3 x6 x7 x8 x9
else k1 (decide (x5 < x4)) x1 x2 x3 x4 x5 x6 x7 x8 x9
def f76_2_lp {R : Type} (N : Nat) (k1 : Bool → Int → Int → Int → Int → Int → List Int → List Int → List Int → List Int → Option R) : Nat → Int → Int → Int → Int → Int → List Int → List Int → List Int → List Int → Option R
 | 0, _, _, _, _, _, _, _, _, _ => none
 | n + 1, x1, x2, x3, x4, x5, x6, x7, x8, x9 => f76_2_st N (f76_2_lp N k1 n) k1 x1 x2 x3 x4 x5 x6 x7 x8 x9
def f76_2_F (N : Nat) : (R : Type) → List Leaf → (X → AS → Option R) → Option R := fun _ ls K => match ls with
 | [.i x1, .i x2, .i x3, .i x4, .i x5, .l x6, .l x7, .l x8, .l x9] => f76_2_lp N (fun y1 y2 y3 y4 y5 y6 y7 y8 y9 y10 => K .normal (fill f76_2_ex1 [.b y1, .i y2, .i y3, .i y4, .i y5, .i y6, .l y7, .l y8, .l y9, .l y10])) N x1 x2 x3 x4 x5 x6 x7 x8 x9
 | _ => none
def f76_0_sh : Shp := ⟨95, 2, [(0, .one (.fix (.own 0))), (3, .one (.fix (.ptr 3 0 .z 32))), (5, .one (.fix (.own 12))), (6, .one (.fix (.own 15))), (17, .one (.int .i64)), (18, .one (.int .i64))], [(0, .view (.one .u8) 32), (3, .obj [.ints .u8 32]), (12, .row (.one .u8) 32), (15, .row (.one .u8) 32)]⟩
def f76_0_ex1 : Shp := ⟨95, 2, [(19, .one .bool), (0, .one (.fix (.own 0))), (3, .one (.fix (.ptr 3 0 .z 32))), (5, .one (.fix (.own 12))), (6, .one (.fix (.own 15))), (17, .one (.int .i64)), (18, .one (.int .i64))], [(0, .view (.one .u8) 32), (3, .obj [.ints .u8 32]), (12, .row (.one .u8) 32), (15, .row (.one .u8) 32)]⟩
def f76_0_st {R : Type} (N : Nat) (self : Int → Int → List Int → List Int → List Int → List Int → Option R) (k1 : Bool → Int → Int → List Int → List Int → List Int → List Int → Option R) (x1 x2 : Int) (x3 x4 : List Int) (x5 x6 : List Int) : Option R :=
 bif decide (x2 < x1) then
 bif decide (0 ≤ x2) && decide (x2 < nI (rowLen 32 x5)) then
 bif decide (0 ≤ x2) && decide (x2 < nI (rowLen 32 x6)) then
 let v0 := (List.replicate 32 0).set 0 1;
 let v1 := splice x5 (.at (mulE x2.toNat 32)) v0;
 let v2 := splice x6 (.at (mulE x2.toNat 32)) v0;
 f76_2_lp N
 (fun w3_1 w3_2 w3_3 w3_4 w3_5 w3_6 w3_7 w3_8 w3_9 w3_10 =>
 let v4 := IntKind.i64.wrap (w3_4 + 1);
 self w3_3 v4 w3_7 w3_8 w3_9 w3_10)
 N x2 x1 x2 (nI (rowLen 32 x3)) 0 x3 x4 v1 v2
 else none
 else none
else k1 (decide (x2 < x1)) x1 x2 x3 x4 x5 x6
def f76_0_lp {R : Type} (N : Nat) (k1 : Bool → Int → Int → List Int → List Int → List Int → List Int → Option R) : Nat → Int → Int → List Int → List Int → List Int → List Int → Option R
 | 0, _, _, _, _, _, _ => none
 | n + 1, x1, x2, x3, x4, x5, x6 => f76_0_st N (f76_0_lp N k1 n) k1 x1 x2 x3 x4 x5 x6
def f76_0_F (N : Nat) : (R : Type) → List Leaf → (X → AS → Option R) → Option R := fun _ ls K => match ls with
 | [.i x1, .i x2, .l x3, .l x4, .l x5, .l x6] => f76_0_lp N (fun y1 y2 y3 y4 y5 y6 y7 => K .normal (fill f76_0_ex1 [.b y1, .i y2, .i y3, .l y4, .l y5, .l y6, .l y7])) N x1 x2 x3 x4 x5 x6
 | _ => none
def f76_4_sh : Shp := ⟨95, 2, [(5, .one (.fix (.own 12))), (6, .one (.fix (.own 72))), (77, .one (.int .i64)), (78, .one (.int .i64))], [(12, .row (.one .u8) 32), (15, .row (.one .u8) 32), (72, .row (.one .u8) 32)]⟩
def f76_4_ex1 : Shp := ⟨95, 2, [(79, .one .bool), (5, .one (.fix (.own 12))), (6, .one (.fix (.own 72))), (77, .one (.int .i64)), (78, .one (.int .i64))], [(12, .row (.one .u8) 32), (15, .row (.one .u8) 32), (72, .row (.one .u8) 32)]⟩
def f76_4_st {R : Type} (N : Nat) (self : Int → Int → List Int → List Int → List Int → Option R) (k1 : Bool → Int → Int → List Int → List Int → List Int → Option R) (x1 x2 : Int) (x3 x4 x5 : List Int) : Option R :=
 bif decide (x2 < x1) then
 bif decide (0 ≤ x2) && decide (x2 < nI (rowLen 32 x3)) then
 bif decide (0 ≤ x2) && decide (x2 < nI (rowLen 32 x5)) then
 bif okB (List.take 32 (List.drop (mulE x2.toNat 32) x3)) && okB (List.take 32 (List.drop (mulE x2.toNat 32) x5)) then
 bif decide (0 ≤ x2) && decide (x2 < nI (rowLen 32 x3)) then
 let v0 := IntKind.i64.wrap (x2 + 1);
 let v1 := splice x3 (.at (mulE x2.toNat 32)) (sN (mulN (vS (List.take 32 (List.drop (mulE x2.toNat 32) x3))) (vS (List.take 32 (List.drop (mulE x2.toNat 32) x5)))));
 self x1 v0 v1 x4 x5
 else none
 else none
 else none
 else none
else k1 (decide (x2 < x1)) x1 x2 x3 x4 x5
def f76_4_lp {R : Type} (N : Nat) (k1 : Bool → Int → Int → List Int → List Int → List Int → Option R) : Nat → Int → Int → List Int → List Int → List Int → Option R
 | 0, _, _, _, _, _ => none
 | n + 1, x1, x2, x3, x4, x5 => f76_4_st N (f76_4_lp N k1 n) k1 x1 x2 x3 x4 x5
def f76_4_F (N : Nat) : (R : Type) → List Leaf → (X → AS → Option R) → Option R := fun _ ls K => match ls with
 | [.i x1, .i x2, .l x3, .l x4, .l x5] => f76_4_lp N (fun y1 y2 y3 y4 y5 y6 => K .normal (fill f76_4_ex1 [.b y1, .i y2, .i y3, .l y4, .l y5, .l y6])) N x1 x2 x3 x4 x5
 | _ => none
def f76_raw {R : Type} (N : Nat) (xs x : List Int) (k : List DV → Option R) : Option R :=
 bif decide (0 ≤ nI (rowLen 32 xs)) && (decide (nI (rowLen 32 xs) ≤ nI (rowLen 32 xs)) && (decide (nI (rowLen 32 xs) ≤ 281474976710656) && decide (nI (rowLen 32 xs) * 32 ≤ 281474976710656))) then bif decide (0 ≤ nI (rowLen 32 xs)) && (decide (nI (rowLen 32 xs) ≤ nI (rowLen 32 xs)) && (decide (nI (rowLen 32 xs) ≤ 281474976710656) && decide (nI (rowLen 32 xs) * 32 ≤ 281474976710656))) then f76_0_lp N (fun w0_1 w0_2 w0_3 w0_4 w0_5 w0_6 w0_7 => bif okF w0_7 then bif hasZ w0_7 then f76_4_lp N (fun w1_1 w1_2 w1_3 w1_4 w1_5 w1_6 => k [.lst (.one .u8) 32 w1_4]) N (nI (rowLen 32 w0_6)) 0 w0_6 w0_7 [] else f76_4_lp N (fun w2_1 w2_2 w2_3 w2_4 w2_5 w2_6 => k [.lst (.one .u8) 32 w2_4]) N (nI (rowLen 32 w0_6)) 0 w0_6 w0_7 (invS w0_7) else none) N (nI (rowLen 32 xs)) 0 xs x (zerosOf (mulE (nI (rowLen 32 xs)).toNat 32)) (zerosOf (mulE (nI (rowLen 32 xs)).toNat 32)) else none else none
def E76 (N : Nat) : Env := { Θ := Th, Γ := GZ, K := K76, ν := N76, fuel := 0, lp := [(0, mkL N76_0 f76_0_sh (f76_0_F N)), (2, mkL N76_2 f76_2_sh (f76_2_F N)), (4, mkL N76_4 f76_4_sh (f76_4_F N))] }
theorem f76_2_st_eq {R : Type} (N : Nat) (K : X → AS → Option R) (n : Nat) (x1 x2 : Int) (x3 x4 x5 : Int) (x6 x7 : List Int) (x8 x9 : List Int) : roundsOf (E76 N) N76_2 2 B76_2 K (n + 1) (fill f76_2_sh [.i x1, .i x2, .i x3, .i x4, .i x5, .l x6, .l x7, .l x8, .l x9]) = f76_2_st N (fun x1 x2 x3 x4 x5 x6 x7 x8 x9 => roundsOf (E76 N) N76_2 2 B76_2 K n (fill f76_2_sh [.i x1, .i x2, .i x3, .i x4, .i x5, .l x6, .l x7, .l x8, .l x9])) (fun y1 y2 y3 y4 y5 y6 y7 y8 y9 y10 => K .normal (fill f76_2_ex1 [.b y1, .i y2, .i y3, .i y4, .i y5, .i y6, .l y7, .l y8, .l y9, .l y10])) x1 x2 x3 x4 x5 x6 x7 x8 x9 := by kernel_rfl
theorem f76_2_lp_eq {R : Type} (N : Nat) (K : X → AS → Option R) : ∀ (n : Nat) (x1 x2 : Int) (x3 x4 x5 : Int) (x6 x7 : List Int) (x8 x9 : List Int), roundsOf (E76 N) N76_2 2 B76_2 K n (fill f76_2_sh [.i x1, .i x2, .i x3, .i x4, .i x5, .l x6, .l x7, .l x8, .l x9]) = f76_2_lp N (fun y1 y2 y3 y4 y5 y6 y7 y8 y9 y10 => K .normal (fill f76_2_ex1 [.b y1, .i y2, .i y3, .i y4, .i y5, .i y6, .l y7, .l y8, .l y9, .l y10])) n x1 x2 x3 x4 x5 x6 x7 x8 x9
 | 0, _, _, _, _, _, _, _, _, _ => rfl
 | n + 1, x1, x2, x3, x4, x5, x6, x7, x8, x9 => by
  rw [f76_2_st_eq, f76_2_lp, show (fun x1 x2 x3 x4 x5 x6 x7 x8 x9 => roundsOf (E76 N) N76_2 2 B76_2 K n (fill f76_2_sh [.i x1, .i x2, .i x3, .i x4, .i x5, .l x6, .l x7, .l x8, .l x9])) = f76_2_lp N (fun y1 y2 y3 y4 y5 y6 y7 y8 y9 y10 => K .normal (fill f76_2_ex1 [.b y1, .i y2, .i y3, .i y4, .i y5, .i y6, .l y7, .l y8, .l y9, .l y10])) n from by funext x1 x2 x3 x4 x5 x6 x7 x8 x9; exact f76_2_lp_eq N K n x1 x2 x3 x4 x5 x6 x7 x8 x9]
theorem f76_2_ok (N : Nat) (hlp : LoopsOk Tryz.prog (E76 N).lp B76_2) (hΓ : CtxOk Tryz.prog (E76 N).Γ) : LoopOk Tryz.prog (mkL N76_2 f76_2_sh (f76_2_F N)) 2 B76_2 := by
 refine loopOk_of (E := E76 N) thOk hΓ mixed hlp ?_
 intro R ls K r h
 unfold f76_2_F at h
 split at h
 ·
  exact ⟨N, by rw [f76_2_lp_eq]; exact h⟩
 ·
  cases h
theorem f76_0_st_eq {R : Type} (N : Nat) (K : X → AS → Option R) (n : Nat) (x1 x2 : Int) (x3 x4 : List Int) (x5 x6 : List Int) : roundsOf (E76 N) N76_0 0 B76_0 K (n + 1) (fill f76_0_sh [.i x1, .i x2, .l x3, .l x4, .l x5, .l x6]) = f76_0_st N (fun x1 x2 x3 x4 x5 x6 => roundsOf (E76 N) N76_0 0 B76_0 K n (fill f76_0_sh [.i x1, .i x2, .l x3, .l x4, .l x5, .l x6])) (fun y1 y2 y3 y4 y5 y6 y7 => K .normal (fill f76_0_ex1 [.b y1, .i y2, .i y3, .l y4, .l y5, .l y6, .l y7])) x1 x2 x3 x4 x5 x6 := by kernel_rfl
theorem f76_0_lp_eq {R : Type} (N : Nat) (K : X → AS → Option R) : ∀ (n : Nat) (x1 x2 : Int) (x3 x4 : List Int) (x5 x6 : List Int), roundsOf (E76 N) N76_0 0 B76_0 K n (fill f76_0_sh [.i x1, .i x2, .l x3, .l x4, .l x5, .l x6]) = f76_0_lp N (fun y1 y2 y3 y4 y5 y6 y7 => K .normal (fill f76_0_ex1 [.b y1, .i y2, .i y3, .l y4, .l y5, .l y6, .l y7])) n x1 x2 x3 x4 x5 x6
 | 0, _, _, _, _, _, _ => rfl
 | n + 1, x1, x2, x3, x4, x5, x6 => by
  rw [f76_0_st_eq, f76_0_lp, show (fun x1 x2 x3 x4 x5 x6 => roundsOf (E76 N) N76_0 0 B76_0 K n (fill f76_0_sh [.i x1, .i x2, .l x3, .l x4, .l x5, .l x6])) = f76_0_lp N (fun y1 y2 y3 y4 y5 y6 y7 => K .normal (fill f76_0_ex1 [.b y1, .i y2, .i y3, .l y4, .l y5, .l y6, .l y7])) n from by funext x1 x2 x3 x4 x5 x6; exact f76_0_lp_eq N K n x1 x2 x3 x4 x5 x6]
theorem f76_0_ok (N : Nat) (hlp : LoopsOk Tryz.prog (E76 N).lp B76_0) (hΓ : CtxOk Tryz.prog (E76 N).Γ) : LoopOk Tryz.prog (mkL N76_0 f76_0_sh (f76_0_F N)) 0 B76_0 := by
 refine loopOk_of (E := E76 N) thOk hΓ mixed hlp ?_
 intro R ls K r h
 unfold f76_0_F at h
 split at h
 ·
  exact ⟨N, by rw [f76_0_lp_eq]; exact h⟩
 ·
  cases h
theorem f76_4_st_eq {R : Type} (N : Nat) (K : X → AS → Option R) (n : Nat) (x1 x2 : Int) (x3 x4 x5 : List Int) : roundsOf (E76 N) N76_4 4 B76_4 K (n + 1) (fill f76_4_sh [.i x1, .i x2, .l x3, .l x4, .l x5]) = f76_4_st N (fun x1 x2 x3 x4 x5 => roundsOf (E76 N) N76_4 4 B76_4 K n (fill f76_4_sh [.i x1, .i x2, .l x3, .l x4, .l x5])) (fun y1 y2 y3 y4 y5 y6 => K .normal (fill f76_4_ex1 [.b y1, .i y2, .i y3, .l y4, .l y5, .l y6])) x1 x2 x3 x4 x5 := by kernel_rfl
theorem f76_4_lp_eq {R : Type} (N : Nat) (K : X → AS → Option R) : ∀ (n : Nat) (x1 x2 : Int) (x3 x4 x5 : List Int), roundsOf (E76 N) N76_4 4 B76_4 K n (fill f76_4_sh [.i x1, .i x2, .l x3, .l x4, .l x5]) = f76_4_lp N (fun y1 y2 y3 y4 y5 y6 => K .normal (fill f76_4_ex1 [.b y1, .i y2, .i y3, .l y4, .l y5, .l y6])) n x1 x2 x3 x4 x5
 | 0, _, _, _, _, _ => rfl
 | n + 1, x1, x2, x3, x4, x5 => by
  rw [f76_4_st_eq, f76_4_lp, show (fun x1 x2 x3 x4 x5 => roundsOf (E76 N) N76_4 4 B76_4 K n (fill f76_4_sh [.i x1, .i x2, .l x3, .l x4, .l x5])) = f76_4_lp N (fun y1 y2 y3 y4 y5 y6 => K .normal (fill f76_4_ex1 [.b y1, .i y2, .i y3, .l y4, .l y5, .l y6])) n from by funext x1 x2 x3 x4 x5; exact f76_4_lp_eq N K n x1 x2 x3 x4 x5]
theorem f76_4_ok (N : Nat) (hlp : LoopsOk Tryz.prog (E76 N).lp B76_4) (hΓ : CtxOk Tryz.prog (E76 N).Γ) : LoopOk Tryz.prog (mkL N76_4 f76_4_sh (f76_4_F N)) 4 B76_4 := by
 refine loopOk_of (E := E76 N) thOk hΓ mixed hlp ?_
 intro R ls K r h
 unfold f76_4_F at h
 split at h
 ·
  exact ⟨N, by rw [f76_4_lp_eq]; exact h⟩
 ·
  cases h
theorem lok76_4 (N : Nat) (hΓ : CtxOk Tryz.prog GZ) : LoopOk Tryz.prog (mkL N76_4 f76_4_sh (f76_4_F N)) 4 B76_4 := f76_4_ok N (loopsOk_of (l := []) (by kernel_rfl) trivial) hΓ
theorem lok76_2 (N : Nat) (hΓ : CtxOk Tryz.prog GZ) : LoopOk Tryz.prog (mkL N76_2 f76_2_sh (f76_2_F N)) 2 B76_2 := f76_2_ok N (loopsOk_of (l := []) (by kernel_rfl) trivial) hΓ
theorem lok76_0 (N : Nat) (hΓ : CtxOk Tryz.prog GZ) : LoopOk Tryz.prog (mkL N76_0 f76_0_sh (f76_0_F N)) 0 B76_0 := f76_0_ok N (loopsOk_of (l := [(2, B76_2)]) (by kernel_rfl) (allOk_cons (L := mkL N76_2 f76_2_sh (f76_2_F N)) rfl (lok76_2 N hΓ) trivial)) hΓ
theorem f76_contract (N : Nat) (hΓ : CtxOk Tryz.prog GZ) : Contract Tryz.prog 76 { sig := S76, impl := fun _ ds k => call (E76 N) S76 95 B76 R76 ds k } :=
 call_contract (E := E76 N) thOk hΓ mixed ok76.look ok76.body ok76.n ok76.rv ok76.name rfl (by decide) (loopsOk_of (l := [(0, B76_0), (2, B76_2), (4, B76_4)]) (by kernel_rfl) (allOk_cons (L := mkL N76_0 f76_0_sh (f76_0_F N)) rfl (lok76_0 N hΓ) (allOk_cons (L := mkL N76_2 f76_2_sh (f76_2_F N)) rfl (lok76_2 N hΓ) (allOk_cons (L := mkL N76_4 f76_4_sh (f76_4_F N)) rfl (lok76_4 N hΓ) trivial))))
theorem f76_raw_eq {R : Type} (N : Nat) (xs x : List Int) (k : List DV → Option R) : call (E76 N) S76 95 B76 R76 [.lst (.one .u8) 32 xs, .v (.one (.ints .u8 32 x))] k = f76_raw N xs x k := by kernel_rfl
theorem basPB_congr {X X' : Nat → Nat} {n i : Nat} (h : ∀ j, j < n → X j = X' j) (hi : i < n) : basPB X i n = basPB X' i n :=
 iterF_congr n 0 _ fun k s _ h2 => by unfold coefIn; rw [h k (by omega), h i hi]
theorem coefG_congr {X X' Y Y' : Nat → Nat} {n : Nat} (h : ∀ j, j < n → X j = X' j) (h' : ∀ j, j < n → Y j = Y' j) : coefG X Y n = coefG X' Y' n :=
 iterF_congr n 0 _ fun k s _ h2 => by unfold coefSt; rw [basPB_congr h (show k < n by omega), h' k (by omega)]
theorem one_row {x : List Int} (h : x.length = 32) : splice (zerosOf (1 * 32)) (Off.at (0 * 32)) x = x := by
 show List.take 0 _ ++ (x ++ List.drop (0 * 32 + x.length) (zerosOf (1 * 32))) = x
 rw [List.take_zero, List.nil_append, List.drop_of_length_le (by rw [zeros_len, h]; omega), List.append_nil]
def pxN (X : Nat → Nat) (i v : Nat) : Nat → Nat → Nat → Nat
 | 0, _, a => a
 | j + 1, k, a => pxN X i v j (k + 1) (if k = i then a else mulN a (difN v (X k)))
theorem pxN_lt {X : Nat → Nat} {i v : Nat} : ∀ (j k a : Nat), a < ell → pxN X i v j k a < ell
 | 0, _, _, h => h
 | j + 1, k, a, h => pxN_lt j (k + 1) _ (by split; exact h; exact mulN_lt _ _)
theorem difN_ne {a b : Nat} (ha : a < ell) (hb : b < ell) (h : a ≠ b) : difN a b ≠ 0 := by
 unfold difN
 rw [addN_def, negN_def, Nat.add_mod_mod]
 intro h0
 by_cases hb0 : b = 0
 ·
  subst hb0
  rw [Nat.sub_zero, Nat.add_mod_right, Nat.mod_eq_of_lt ha] at h0; exact h h0
 ·
  by_cases hlt : a < b
  ·
   rw [Nat.mod_eq_of_lt (by omega)] at h0; omega
  ·
   rw [show a + (ell - b) = (a - b) + ell by omega, Nat.add_mod_right, Nat.mod_eq_of_lt (by omega)] at h0; omega
theorem pxN_ne {X : Nat → Nat} (hX : LtE X) {i n : Nat} (hi : i < n) (hd : ∀ a b, a < b → b < n → X a ≠ X b) : ∀ (j k a : Nat), k + j ≤ n → a < ell → a ≠ 0 → pxN X i (X i) j k a ≠ 0
 | 0, _, _, _, _, h => h
 | j + 1, k, a, hk, ha, h => by
  refine pxN_ne hX hi hd j (k + 1) _ (by omega) ?_ ?_
  ·
   split; exact ha; exact mulN_lt _ _
  ·
   split
   ·
    exact h
   ·
    rename_i e
    refine mul_ne ha (difN_lt _ _) h (difN_ne (hX i) (hX k) ?_)
    rcases Nat.lt_or_gt_of_ne e with h1 | h1
    ·
     exact (hd k i h1 hi).symm
    ·
     exact hd i k h1 (by omega)
theorem pxN_congr {X X' : Nat → Nat} {i v n : Nat} (h : ∀ j, j < n → X j = X' j) : ∀ (j k a : Nat), k + j ≤ n → pxN X i v j k a = pxN X' i v j k a
 | 0, _, _, _ => rfl
 | j + 1, k, a, hk => by
  unfold pxN
  rw [h k (by omega), pxN_congr h j (k + 1) _ (by omega)]
def basG (X : Nat → Nat) (v n i : Nat) : Nat := mulN (pxN X i v n 0 1) (invN (pxN X i (X i) n 0 1))
theorem basG_lt (X : Nat → Nat) (v n : Nat) : LtE (basG X v n) := fun _ => mulN_lt _ _
theorem basG_congr {X X' : Nat → Nat} {v n i : Nat} (h : ∀ j, j < n → X j = X' j) (hi : i < n) : basG X v n i = basG X' v n i := by
 unfold basG
 rw [h i hi, pxN_congr h n 0 1 (by omega), pxN_congr h n 0 1 (by omega)]
theorem upd_upd (f : Nat → Nat) (i v w : Nat) : upd (upd f i v) i w = upd f i w := by
 funext j; unfold upd; split <;> rfl
theorem upd_self (f : Nat → Nat) (i v : Nat) : upd f i v i = v := by simp [upd]
theorem f76_in {R : Type} {N : Nat} (k1 : Bool → Int → Int → Int → Int → Int → List Int → List Int → List Int → List Int → Option R) {xs x : List Int} {n i : Nat} (hx : okF xs = true) (ho : okB x = true) (hn : xs.length / 32 = n) (hi : i < n) (hb : n ≤ 30000) {T B : Nat → Nat} :
  ∀ j k : Nat, k + j = n → ∀ fuel, j < fuel → ∀ a b, a < ell → b < ell →
   f76_2_lp N k1 fuel (i : Int) (n : Int) (i : Int) (n : Int) (k : Int) xs x (arrN (upd T i a) n) (arrN (upd B i b) n) =
    k1 false (i : Int) (n : Int) (i : Int) (n : Int) (n : Int) xs x (arrN (upd T i (pxN (numF xs) i (vS x) j k a)) n) (arrN (upd B i (pxN (numF xs) i (numF xs i) j k b)) n) := by
 intro j
 induction j with
 | zero =>
  intro k h fuel hf a b ha hb'
  obtain ⟨f, rfl⟩ : ∃ f, fuel = f + 1 := ⟨fuel - 1, by omega⟩
  show f76_2_st N (f76_2_lp N _ f) _ _ _ _ _ _ _ _ _ _ = _
  unfold f76_2_st
  rw [ltF (by omega), cond_false, show k = n by omega]
  rfl
 | succ j ih =>
  intro k h fuel hf a b ha hb'
  obtain ⟨f, rfl⟩ : ∃ f, fuel = f + 1 := ⟨fuel - 1, by omega⟩
  show f76_2_st N (f76_2_lp N _ f) _ _ _ _ _ _ _ _ _ _ = _
  unfold f76_2_st
  have e1 : List.take 32 (List.drop (k * 32) xs) = elF xs k := rfl
  have e2 : List.take 32 (List.drop (i * 32) xs) = elF xs i := rfl
  rw [ltT (show k < n by omega), cond_true, bne_nat, wAdd (by omega)]
  by_cases hk : k = i
  ·
   rw [decide_eq_true hk, Bool.not_true, cond_false]
   have e3 : ∀ v c, pxN (numF xs) i v (j + 1) k c = pxN (numF xs) i v j (k + 1) c := fun v c => by
    show pxN (numF xs) i v j (k + 1) (if k = i then c else _) = _
    rw [if_pos hk]
   rw [e3, e3]
   exact ih (k + 1) (by omega) f (by omega) a b ha hb'
  ·
   rw [decide_eq_false hk, Bool.not_false, cond_true]
   have e3 : ∀ v c, pxN (numF xs) i v (j + 1) k c = pxN (numF xs) i v j (k + 1) (mulN c (difN v (numF xs k))) := fun v c => by
    show pxN (numF xs) i v j (k + 1) (if k = i then c else _) = _
    rw [if_neg hk]
   dsimp only
   rw [arr_rows, arr_rows, rows32 hx, hn, ge0, ge0, ltT (show i < n by omega), ltT (show k < n by omega), toN, toN, e1, e2, okF_el hx (by omega), okF_el hx (by omega), ho, arr_el _ (show i < n by omega), arr_el _ (show i < n by omega), upd_self, upd_self, okB_sN, okB_sN, okB_sN, okB_sN, vS_sN ha, vS_sN hb', vS_sN (difN_lt _ _), vS_sN (difN_lt _ _),
    arr_set _ _ (show i < n by omega), arr_set _ _ (show i < n by omega), upd_upd, upd_upd]
   simp only [Bool.and_self, cond_true]
   rw [e3, e3]
   exact ih (k + 1) (by omega) f (by omega) _ _ (mulN_lt _ _) (mulN_lt _ _)
theorem one_sN : (List.replicate 32 (0 : Int)).set 0 1 = sN 1 := by rw [sN_def]; decide
theorem f76_out {R : Type} {N : Nat} (k1 : Bool → Int → Int → List Int → List Int → List Int → List Int → Option R) {xs x : List Int} {n : Nat} (hx : okF xs = true) (ho : okB x = true) (hn : xs.length / 32 = n) (hb : n ≤ 30000) (hN : n < N) :
  ∀ j i : Nat, i + j = n → ∀ fuel, j < fuel → ∀ T B,
   f76_0_lp N k1 fuel (n : Int) (i : Int) xs x (arrN T n) (arrN B n) =
    k1 false (n : Int) (n : Int) xs x (arrN (iterF (fun i T => upd T i (pxN (numF xs) i (vS x) n 0 1)) j i T) n) (arrN (iterF (fun i B => upd B i (pxN (numF xs) i (numF xs i) n 0 1)) j i B) n) := by
 intro j
 induction j with
 | zero =>
  intro i h fuel hf T B
  obtain ⟨f, rfl⟩ : ∃ f, fuel = f + 1 := ⟨fuel - 1, by omega⟩
  show f76_0_st N (f76_0_lp N _ f) _ _ _ _ _ _ _ = _
  unfold f76_0_st
  rw [ltF (by omega), cond_false, show i = n by omega]
  rfl
 | succ j ih =>
  intro i h fuel hf T B
  obtain ⟨f, rfl⟩ : ∃ f, fuel = f + 1 := ⟨fuel - 1, by omega⟩
  show f76_0_st N (f76_0_lp N _ f) _ _ _ _ _ _ _ = _
  unfold f76_0_st
  dsimp only
  rw [ltT (show i < n by omega), arr_rows, arr_rows, rows32 hx, hn, ge0, ltT (show i < n by omega), toN, one_sN, arr_set _ _ (show i < n by omega), arr_set _ _ (show i < n by omega)]
  simp only [Bool.and_self, cond_true]
  refine (f76_in (N := N) _ hx ho hn (show i < n by omega) hb n 0 (by omega) N (by omega) 1 1 one_lt_ell one_lt_ell).trans ?_
  rw [wAdd (by omega)]
  exact ih (i + 1) (by omega) f (by omega) _ _
theorem f76_mul {R : Type} {N : Nat} (k1 : Bool → Int → Int → List Int → List Int → List Int → Option R) {x : List Int} {n : Nat} {I : Nat → Nat} (hI : LtE I) (hb : n ≤ 30000) :
  ∀ j i : Nat, i + j = n → ∀ fuel, j < fuel → ∀ T, LtE T → f76_4_lp N k1 fuel (n : Int) (i : Int) (arrN T n) x (arrN I n) =
   k1 false (n : Int) (n : Int) (arrN (iterF (fun i T => upd T i (mulN (T i) (I i))) j i T) n) x (arrN I n) := by
 intro j
 induction j with
 | zero =>
  intro i h fuel hf T hT
  obtain ⟨f, rfl⟩ : ∃ f, fuel = f + 1 := ⟨fuel - 1, by omega⟩
  show f76_4_st N (f76_4_lp N _ f) _ _ _ _ _ _ = _
  unfold f76_4_st
  rw [ltF (by omega), cond_false, show i = n by omega]
  rfl
 | succ j ih =>
  intro i h fuel hf T hT
  obtain ⟨f, rfl⟩ : ∃ f, fuel = f + 1 := ⟨fuel - 1, by omega⟩
  show f76_4_st N (f76_4_lp N _ f) _ _ _ _ _ _ = _
  unfold f76_4_st
  dsimp only
  rw [ltT (show i < n by omega), arr_rows, arr_rows, ge0, ltT (show i < n by omega), toN, arr_el _ (show i < n by omega), arr_el _ (show i < n by omega), okB_sN, okB_sN, vS_sN (hT _), vS_sN (hI _), arr_set _ _ (show i < n by omega), wAdd (by omega)]
  simp only [Bool.and_self, cond_true]
  exact ih (i + 1) (by omega) f (by omega) _ (hT.upd (mulN_lt _ _) _)
theorem iter_set {φ : Nat → Nat} : ∀ (m i : Nat) (g : Nat → Nat) (j : Nat), iterF (fun i g => upd g i (φ i)) m i g j = if i ≤ j ∧ j < i + m then φ j else g j
 | 0, i, g, j => by rw [if_neg (by omega)]; rfl
 | m + 1, i, g, j => by
  show iterF (fun i g => upd g i (φ i)) m (i + 1) (upd g i (φ i)) j = _
  rw [iter_set m]
  by_cases h1 : j = i
  ·
   subst h1; rw [if_neg (by omega), if_pos (by omega)]; simp [upd]
  ·
   by_cases h2 : i + 1 ≤ j ∧ j < i + 1 + m
   ·
    rw [if_pos h2, if_pos (by omega)]
   ·
    rw [if_neg h2, if_neg (by omega)]; simp [upd, h1]
theorem iter_mul (I : Nat → Nat) : ∀ (m i : Nat) (g : Nat → Nat) (j : Nat), iterF (fun i T => upd T i (mulN (T i) (I i))) m i g j = if i ≤ j ∧ j < i + m then mulN (g j) (I j) else g j
 | 0, i, g, j => by rw [if_neg (by omega)]; rfl
 | m + 1, i, g, j => by
  show iterF (fun i T => upd T i (mulN (T i) (I i))) m (i + 1) (upd g i (mulN (g i) (I i))) j = _
  rw [iter_mul I m]
  by_cases h1 : j = i
  ·
   subst h1; rw [if_neg (by omega), if_pos (by omega)]; simp [upd]
  ·
   have e : upd g i (mulN (g i) (I i)) j = g j := by simp [upd, h1]
   rw [e]
   by_cases h2 : i + 1 ≤ j ∧ j < i + 1 + m
   ·
    rw [if_pos h2, if_pos (by omega)]
   ·
    rw [if_neg h2, if_neg (by omega)]
def sameX (xs : List Int) : Bool := dupAll (fun i => sN (numF xs i)) (xs.length / 32) 0
theorem same_ne {xs : List Int} (h : sameX xs = false) : ∀ i j, i < j → j < xs.length / 32 → numF xs i ≠ numF xs j := fun i j h1 h2 e => by
 have : sameX xs = true := dupAll_iff.2 ⟨i, j, h1, by omega, by omega, by rw [e]⟩
 rw [h] at this; cases this
theorem fz_of {x : List Int} : ∀ {j i : Nat}, (∀ k, i ≤ k → k < i + j → vS (elF x k) ≠ 0) → fz x j i = none
 | 0, _, _ => rfl
 | j + 1, i, h => by
  unfold fz
  rw [if_neg (h i (by omega) (by omega))]
  exact fz_of fun k h1 h2 => h k (by omega) (by omega)
theorem invS_arr {f : Nat → Nat} (hf : LtE f) (n : Nat) : invS (arrN f n) = arrN (fun i => invN (f i)) n := by
 unfold invS
 rw [arr_div]
 have : ∀ m, m ≤ n → headG (fun i => sN (invN (vS (elF (arrN f n) i)))) m = headG (fun i => sN (invN (f i))) m := by
  intro m
  induction m with
  | zero => intro _; rfl
  | succ m ih =>
   intro hm
   show headG _ m ++ sN (invN (vS (elF (arrN f n) m))) = headG _ m ++ sN (invN (f m))
   rw [ih (by omega), arr_elF f (by omega), vS_sN (hf m)]
 exact this n (Nat.le_refl _)
def I76 : (R : Type) → List DV → (List DV → Option R) → Option R := fun _ ds k => match ds with
 | [.lst (.one .u8) 32 xs, .v (.one (.ints .u8 32 x))] => bif okF xs && (okB x && (Nat.ble (xs.length / 32) 30000 && !(sameX xs))) then k [.lst (.one .u8) 32 (arrN (basG (numF xs) (vS x) (xs.length / 32)) (xs.length / 32))] else none
 | _ => none
theorem c76 : Contract Tryz.prog 76 { sig := S76, impl := I76 } := by
 refine Contract.refine fun R ds k r h => ?_
 unfold I76 at h
 split at h
 ·
  rename_i xs x
  refine ⟨_, f76_contract (xs.length / 32 + 1) GZ_ok, ?_⟩
  cases hc : okF xs && (okB x && (Nat.ble (xs.length / 32) 30000 && !(sameX xs))) with
  | false => rw [hc] at h; cases h
  | true =>
   rw [hc, cond_true] at h
   simp only [Bool.and_eq_true, Bool.not_eq_true'] at hc
   obtain ⟨h1, h2, h3, h4⟩ := hc
   have h3 := Nat.le_of_ble_eq_true h3
   have hne := same_ne h4
   rw [f76_raw_eq]
   unfold f76_raw
   rw [rows32 h1]
   generalize hn : xs.length / 32 = n at *
   have e1 : (decide (0 ≤ (n : Int)) && (decide ((n : Int) ≤ (n : Int)) && (decide ((n : Int) ≤ 281474976710656) && decide ((n : Int) * 32 ≤ 281474976710656)))) = true := by
    simp only [Bool.and_eq_true, decide_eq_true_eq]; omega
   rw [e1, cond_true, cond_true, toN, arr_zero]
   refine (f76_out _ h1 h2 hn h3 (by omega) n 0 (by omega) (n + 1) (by omega) _ _).trans ?_
   have eT : arrN (iterF (fun i T => upd T i (pxN (numF xs) i (vS x) n 0 1)) n 0 (fun _ => 0)) n = arrN (fun i => pxN (numF xs) i (vS x) n 0 1) n := arr_congr fun i hi => by rw [iter_set (φ := fun i => pxN (numF xs) i (vS x) n 0 1), if_pos (by omega)]
   have eB : arrN (iterF (fun i B => upd B i (pxN (numF xs) i (numF xs i) n 0 1)) n 0 (fun _ => 0)) n = arrN (fun i => pxN (numF xs) i (numF xs i) n 0 1) n := arr_congr fun i hi => by rw [iter_set (φ := fun i => pxN (numF xs) i (numF xs i) n 0 1), if_pos (by omega)]
   have hB : LtE (fun i => pxN (numF xs) i (numF xs i) n 0 1) := fun i => pxN_lt _ _ _ one_lt_ell
   have hT : LtE (fun i => pxN (numF xs) i (vS x) n 0 1) := fun i => pxN_lt _ _ _ one_lt_ell
   have hz : hasZ (arrN (fun i => pxN (numF xs) i (numF xs i) n 0 1) n) = false := by
    unfold hasZ
    rw [arr_div, fz_of fun k _ hk => ?_]
    ·
     rfl
    ·
     rw [arr_elF _ (show k < n by omega), vS_sN (hB k)]
     exact pxN_ne (numF_lt xs) (show k < n by omega) (fun a b ha hb => hne a b ha hb) n 0 1 (by omega) one_lt_ell (by decide)
   rw [eT, eB, arr_okF (by omega), hz, cond_true, cond_false, arr_rows, invS_arr hB]
   refine (f76_mul _ (fun i => invN_lt _) h3 n 0 (by omega) (n + 1) (by omega) _ hT).trans ?_
   rw [show arrN (iterF (fun i T => upd T i (mulN (T i) (invN (pxN (numF xs) i (numF xs i) n 0 1)))) n 0 (fun i => pxN (numF xs) i (vS x) n 0 1)) n = arrN (basG (numF xs) (vS x) n) n from arr_congr fun i hi => by
    rw [iter_mul (fun i => invN (pxN (numF xs) i (numF xs i) n 0 1)), if_pos (by omega)]; rfl]
   exact h
 ·
  exact (Option.some_ne_none _ h.symm).elim
def f19_0_sh : Shp := ⟨32, 2, [(0, .one (.fix (.own 0))), (7, .one (.fix (.own 1000007))), (15, .one (.fix (.own 1))), (16, .one (.int .i64)), (17, .one (.int .i64))], [(1000007, .row (.mix ck78) 33), (0, .view (.one .u8) 32), (1, .view (.one .i64) 1)]⟩
def f19_0_ex1 : Shp := ⟨32, 2, [(18, .one .bool), (0, .one (.fix (.own 0))), (7, .one (.fix (.own 1000007))), (15, .one (.fix (.own 1))), (16, .one (.int .i64)), (17, .one (.int .i64))], [(1000007, .row (.mix ck78) 33), (0, .view (.one .u8) 32), (1, .view (.one .i64) 1)]⟩
def f19_0_st {R : Type} (N : Nat) (self : Int → Int → List Int → List Int → List Int → Option R) (k1 : Bool → Int → Int → List Int → List Int → List Int → Option R) (x1 x2 : Int) (x3 x4 x5 : List Int) : Option R :=
 bif decide (x2 < x1) then
 bif decide (0 ≤ x2) && decide (x2 < nI (rowLen 1 x5)) then
 bif okF x4 && okB (sN (plN (x5.getD (mulE x2.toNat 1) 0))) then
 let v0 : List Int := sN (evN x4 (vS (sN (plN (x5.getD (mulE x2.toNat 1) 0))))) ++ [];
 let v1 : List Int := x5.getD (mulE x2.toNat 1) 0 :: v0 ++ [];
 bif ((2 * (rowLen 33 x3 + rowLen 33 v1) + 192) * 40).ble big48 && (rowLen 33 x3 + rowLen 33 v1).ble big48 then
 let v2 := IntKind.i64.wrap (x2 + 1);
 let v3 : List Int := x3 ++ v1;
 self x1 v2 v3 x4 x5
 else none
 else none
 else none
else k1 (decide (x2 < x1)) x1 x2 x3 x4 x5
def f19_0_lp {R : Type} (N : Nat) (k1 : Bool → Int → Int → List Int → List Int → List Int → Option R) : Nat → Int → Int → List Int → List Int → List Int → Option R
 | 0, _, _, _, _, _ => none
 | n + 1, x1, x2, x3, x4, x5 => f19_0_st N (f19_0_lp N k1 n) k1 x1 x2 x3 x4 x5
def f19_0_F (N : Nat) : (R : Type) → List Leaf → (X → AS → Option R) → Option R := fun _ ls K => match ls with
 | [.i x1, .i x2, .l x3, .l x4, .l x5] => f19_0_lp N (fun y1 y2 y3 y4 y5 y6 => K .normal (fill f19_0_ex1 [.b y1, .i y2, .i y3, .l y4, .l y5, .l y6])) N x1 x2 x3 x4 x5
 | _ => none
def f19_raw {R : Type} (N : Nat) (xs ids : List Int) (k : List DV → Option R) : Option R :=
 bif ids.length.ble 1073741824 then bif idsN ids != 0 then k [.lst (.mix ck78) 33 [], .v (.one (.int .i64 (idsN ids)))] else f19_0_lp N (fun w0_1 w0_2 w0_3 w0_4 w0_5 w0_6 => k [.lst (.mix ck78) 33 w0_4, .v (.one (.int .i64 0))]) N (nI (rowLen 1 ids)) 0 [] xs ids else none
def E19 (N : Nat) : Env := { Θ := Th, Γ := GT2, K := K19, ν := N19, fuel := 0, lp := [(0, mkL N19_0 f19_0_sh (f19_0_F N))] }
theorem f19_0_st_eq {R : Type} (N : Nat) (K : X → AS → Option R) (n : Nat) (x1 x2 : Int) (x3 x4 x5 : List Int) : roundsOf (E19 N) N19_0 0 B19_0 K (n + 1) (fill f19_0_sh [.i x1, .i x2, .l x3, .l x4, .l x5]) = f19_0_st N (fun x1 x2 x3 x4 x5 => roundsOf (E19 N) N19_0 0 B19_0 K n (fill f19_0_sh [.i x1, .i x2, .l x3, .l x4, .l x5])) (fun y1 y2 y3 y4 y5 y6 => K .normal (fill f19_0_ex1 [.b y1, .i y2, .i y3, .l y4, .l y5, .l y6])) x1 x2 x3 x4 x5 := by kernel_rfl
theorem f19_0_lp_eq {R : Type} (N : Nat) (K : X → AS → Option R) : ∀ (n : Nat) (x1 x2 : Int) (x3 x4 x5 : List Int), roundsOf (E19 N) N19_0 0 B19_0 K n (fill f19_0_sh [.i x1, .i x2, .l x3, .l x4, .l x5]) = f19_0_lp N (fun y1 y2 y3 y4 y5 y6 => K .normal (fill f19_0_ex1 [.b y1, .i y2, .i y3, .l y4, .l y5, .l y6])) n x1 x2 x3 x4 x5
 | 0, _, _, _, _, _ => rfl
 | n + 1, x1, x2, x3, x4, x5 => by
  rw [f19_0_st_eq, f19_0_lp, show (fun x1 x2 x3 x4 x5 => roundsOf (E19 N) N19_0 0 B19_0 K n (fill f19_0_sh [.i x1, .i x2, .l x3, .l x4, .l x5])) = f19_0_lp N (fun y1 y2 y3 y4 y5 y6 => K .normal (fill f19_0_ex1 [.b y1, .i y2, .i y3, .l y4, .l y5, .l y6])) n from by funext x1 x2 x3 x4 x5; exact f19_0_lp_eq N K n x1 x2 x3 x4 x5]
theorem f19_0_ok (N : Nat) (hlp : LoopsOk Tryz.prog (E19 N).lp B19_0) (hΓ : CtxOk Tryz.prog (E19 N).Γ) : LoopOk Tryz.prog (mkL N19_0 f19_0_sh (f19_0_F N)) 0 B19_0 := by
 refine loopOk_of (E := E19 N) thOk hΓ mixed hlp ?_
 intro R ls K r h
 unfold f19_0_F at h
 split at h
 ·
  exact ⟨N, by rw [f19_0_lp_eq]; exact h⟩
 ·
  cases h
theorem lok19_0 (N : Nat) (hΓ : CtxOk Tryz.prog GT2) : LoopOk Tryz.prog (mkL N19_0 f19_0_sh (f19_0_F N)) 0 B19_0 := f19_0_ok N (loopsOk_of (l := []) (by kernel_rfl) trivial) hΓ
theorem f19_contract (N : Nat) (hΓ : CtxOk Tryz.prog GT2) : Contract Tryz.prog 19 { sig := S19, impl := fun _ ds k => call (E19 N) S19 32 B19 R19 ds k } :=
 call_contract (E := E19 N) thOk hΓ mixed ok19.look ok19.body ok19.n ok19.rv ok19.name rfl (by decide) (loopsOk_of (l := [(0, B19_0)]) (by kernel_rfl) (allOk_cons (L := mkL N19_0 f19_0_sh (f19_0_F N)) rfl (lok19_0 N hΓ) trivial))
theorem f19_raw_eq {R : Type} (N : Nat) (xs ids : List Int) (k : List DV → Option R) : call (E19 N) S19 32 B19 R19 [.lst (.one .u8) 32 xs, .lst (.one .i64) 1 ids] k = f19_raw N xs ids k := by kernel_rfl
theorem plN_lt (x : Int) : plN x < ell := by
 have h : plN x < 18446744073709551616 := by
  unfold plN IntKind.wrap
  simp only [IntKind.bits, IntKind.signed, Bool.false_and, Bool.false_eq_true, if_false, show (2 : Int) ^ 64 = 18446744073709551616 by decide]
  omega
 rw [ell_def]; omega
theorem headG_lenK {g : Nat → List Int} {K : Nat} (hg : ∀ i, (g i).length = K) : ∀ n, (headG g n).length = n * K
 | 0 => by simp [headG]
 | n + 1 => by rw [headG, List.length_append, headG_lenK hg n, hg, Nat.succ_mul]
theorem headG_split (g : Nat → List Int) {i : Nat} : ∀ {n}, i < n → ∃ C, headG g n = headG g i ++ (g i ++ C)
 | n + 1, h => by
  by_cases e : i = n
  ·
   subst e; exact ⟨[], by rw [List.append_nil]; rfl⟩
  ·
   obtain ⟨C, hC⟩ := headG_split g (i := i) (n := n) (by omega)
   exact ⟨C ++ g n, by show headG g n ++ g n = _; rw [hC]; simp [List.append_assoc]⟩
def shG (d : Nat → Int) (f : Nat → Nat) (n : Nat) : List Int := headG (fun i => d i :: sN (f i)) n
theorem shG_len (d : Nat → Int) (f : Nat → Nat) (n : Nat) : (shG d f n).length = n * 33 := headG_lenK (fun i => by rw [List.length_cons, sN_len]) n
theorem shG_div (d : Nat → Int) (f : Nat → Nat) (n : Nat) : (shG d f n).length / 33 = n := by rw [shG_len]; omega
theorem f19_loop {R : Type} {N : Nat} (k1 : Bool → Int → Int → List Int → List Int → List Int → Option R) {xs ids : List Int} {n : Nat} (hx : okF xs = true) (hn : ids.length = n) (hb : n ≤ 1073741823) :
  ∀ j i : Nat, i + j = n → ∀ fuel, j < fuel → f19_0_lp N k1 fuel (n : Int) (i : Int) (shG (fun i => ids.getD i 0) (fun i => evN xs (plN (ids.getD i 0))) i) xs ids =
   k1 false (n : Int) (n : Int) (shG (fun i => ids.getD i 0) (fun i => evN xs (plN (ids.getD i 0))) n) xs ids := by
 intro j
 induction j with
 | zero =>
  intro i h fuel hf
  obtain ⟨f, rfl⟩ : ∃ f, fuel = f + 1 := ⟨fuel - 1, by omega⟩
  show f19_0_st N (f19_0_lp N _ f) _ _ _ _ _ _ = _
  unfold f19_0_st
  rw [ltF (by omega), cond_false, show i = n by omega]
 | succ j ih =>
  intro i h fuel hf
  obtain ⟨f, rfl⟩ : ∃ f, fuel = f + 1 := ⟨fuel - 1, by omega⟩
  show f19_0_st N (f19_0_lp N _ f) _ _ _ _ _ _ = _
  unfold f19_0_st
  rw [rows1, hn, ltT (show i < n by omega), ge0, show mulE (Int.toNat (i : Int)) 1 = i from rfl, hx, okB_sN, vS_sN (plN_lt _)]
  dsimp only
  rw [List.append_nil]
  have e1 : rowLen 33 (shG (fun i => ids.getD i 0) (fun i => evN xs (plN (ids.getD i 0))) i) = i := shG_div _ _ _
  have e2 : rowLen 33 (ids.getD i 0 :: (sN (evN xs (plN (ids.getD i 0))) ++ [])) = 1 := by
   show (ids.getD i 0 :: (sN (evN xs (plN (ids.getD i 0))) ++ [])).length / 33 = 1
   rw [List.append_nil, List.length_cons, sN_len]
  have hle : (Nat.ble ((2 * (i + 1) + 192) * 40) big48 && Nat.ble (i + 1) big48) = true := by
   rw [Bool.and_eq_true, Nat.ble_eq, Nat.ble_eq]; unfold big48; omega
  rw [e1, e2, hle, wAdd (by omega), List.append_nil]
  simp only [Bool.and_self, cond_true]
  exact ih (i + 1) (by omega) f (by omega)
def splitG (xs ids : List Int) : List Int := shG (fun i => ids.getD i 0) (fun i => evN xs (plN (ids.getD i 0))) ids.length
def I19 : (R : Type) → List DV → (List DV → Option R) → Option R := fun _ ds k => match ds with
 | [.lst (.one .u8) 32 xs, .lst (.one .i64) 1 ids] => bif okF xs && Nat.ble ids.length 1073741823 then (bif decide (idsN ids = 0) then k [.lst (.mix ck78) 33 (splitG xs ids), .v (.one (.int .i64 0))] else k [.lst (.mix ck78) 33 [], .v (.one (.int .i64 (idsN ids)))]) else none
 | _ => none
theorem c19 : Contract Tryz.prog 19 { sig := S19, impl := I19 } := by
 refine Contract.refine fun R ds k r h => ?_
 unfold I19 at h
 split at h
 ·
  rename_i xs ids
  refine ⟨_, f19_contract (ids.length + 1) GT2_ok, ?_⟩
  cases hc : okF xs && Nat.ble ids.length 1073741823 with
  | false => rw [hc] at h; cases h
  | true =>
   rw [hc, cond_true] at h
   rw [Bool.and_eq_true] at hc
   have hb := Nat.le_of_ble_eq_true hc.2
   rw [f19_raw_eq]
   unfold f19_raw
   rw [show Nat.ble ids.length 1073741824 = true from Nat.ble_eq_true_of_le (by omega), cond_true]
   by_cases h0 : idsN ids = 0
   ·
    rw [decide_eq_true h0, cond_true] at h
    rw [h0, show ((0 : Int) != 0) = false from rfl, cond_false]
    exact (f19_loop (N := ids.length + 1) _ hc.1 rfl hb ids.length 0 (by omega) (ids.length + 1) (by omega)).trans h
   ·
    rw [decide_eq_false h0, cond_false] at h
    rw [show (idsN ids != 0) = true by simpa using h0, cond_true]
    exact h
 ·
  exact (Option.some_ne_none _ h.symm).elim
theorem c68s : CtxOk Tryz.prog [(68, { sig := S68, impl := I68 })] := ctxOk_cons ok68 rfl c68 ctxOk_nil
def plF (ids : List Int) (i : Nat) : Nat := plN (ids.getD i 0)
theorem plF_lt (ids : List Int) : LtE (plF ids) := fun _ => plN_lt _
theorem f77_loop {R : Type} {N : Nat} (k1 : Bool → Int → Int → List Int → List Int → Option R) {ids : List Int} {n : Nat} (hn : ids.length = n) (hb : n ≤ 33554432) :
  ∀ j i : Nat, i + j = n → ∀ fuel, j < fuel → f77_0_lp N k1 fuel (n : Int) (i : Int) (arrN (plF ids) i) ids = k1 false (n : Int) (n : Int) (arrN (plF ids) n) ids := by
 intro j
 induction j with
 | zero =>
  intro i h fuel hf
  obtain ⟨f, rfl⟩ : ∃ f, fuel = f + 1 := ⟨fuel - 1, by omega⟩
  show f77_0_st N (f77_0_lp N _ f) _ _ _ _ _ = _
  unfold f77_0_st
  rw [ltF (by omega), cond_false, show i = n by omega]
 | succ j ih =>
  intro i h fuel hf
  obtain ⟨f, rfl⟩ : ∃ f, fuel = f + 1 := ⟨fuel - 1, by omega⟩
  show f77_0_st N (f77_0_lp N _ f) _ _ _ _ _ = _
  unfold f77_0_st
  have r1 : rowLen 32 (arrN (plF ids) i) = i := arr_div _ i
  have r2 : ∀ v, rowLen 32 (sN v) = 1 := fun v => by show (sN v).length / 32 = 1; rw [sN_len]
  have hle : (Nat.ble ((2 * (i + 1) + 192) * 32) big48 && Nat.ble (i + 1) big48) = true := by
   rw [Bool.and_eq_true, Nat.ble_eq, Nat.ble_eq]; unfold big48; omega
  dsimp only
  rw [ltT (show i < n by omega), rows1, hn, ge0, ltT (show i < n by omega), show mulE (Int.toNat (i : Int)) 1 = i from rfl, one_row (sN_len _), r1, r2, hle, wAdd (by omega)]
  simp only [Bool.and_self, cond_true]
  exact ih (i + 1) (by omega) f (by omega)
def I77 : (R : Type) → List DV → (List DV → Option R) → Option R := fun _ ds k => match ds with
 | [.lst (.one .i64) 1 ids] => bif Nat.ble ids.length 33554432 then k [.lst (.one .u8) 32 (arrN (plF ids) ids.length)] else none
 | _ => none
theorem c77 : Contract Tryz.prog 77 { sig := S77, impl := I77 } := by
 refine Contract.refine fun R ds k r h => ?_
 unfold I77 at h
 split at h
 ·
  rename_i ids
  refine ⟨_, f77_contract (ids.length + 1) c68s, ?_⟩
  cases hc : Nat.ble ids.length 33554432 with
  | false => rw [hc] at h; cases h
  | true =>
   rw [hc, cond_true] at h
   rw [f77_raw_eq]
   unfold f77_raw
   exact (f77_loop (N := ids.length + 1) _ rfl (Nat.le_of_ble_eq_true hc) ids.length 0 (by omega) (ids.length + 1) (by omega)).trans h
 ·
  exact (Option.some_ne_none _ h.symm).elim
def idxE (xs : List Int) (x : Int) : Nat → Nat → Int
 | 0, _ => -1
 | j + 1, i => bif x == xs.getD i 0 then (i : Int) else idxE xs x j (i + 1)
theorem f108_loop {R : Type} {N : Nat} (K : Int → Option R) {xs : List Int} {x : Int} {n : Nat} (hn : xs.length = n) (hb : n ≤ 1073741823) :
  ∀ j i : Nat, i + j = n → ∀ fuel, j < fuel → f108_0_lp N (fun w _ _ _ _ _ _ _ => K w) (fun _ _ _ _ _ => K (-1)) fuel x (n : Int) (i : Int) xs = K (idxE xs x j i) := by
 intro j
 induction j with
 | zero =>
  intro i h fuel hf
  obtain ⟨f, rfl⟩ : ∃ f, fuel = f + 1 := ⟨fuel - 1, by omega⟩
  show f108_0_st N (f108_0_lp N _ _ f) _ _ _ _ _ _ = _
  unfold f108_0_st
  rw [ltF (by omega), cond_false]; rfl
 | succ j ih =>
  intro i h fuel hf
  obtain ⟨f, rfl⟩ : ∃ f, fuel = f + 1 := ⟨fuel - 1, by omega⟩
  show f108_0_st N (f108_0_lp N _ _ f) _ _ _ _ _ _ = _
  unfold f108_0_st
  dsimp only
  rw [ltT (show i < n by omega), rows1, hn, ge0, ltT (show i < n by omega), show mulE (Int.toNat (i : Int)) 1 = i from rfl, wAdd (by omega), idxE]
  simp only [Bool.and_self, cond_true]
  cases x == xs.getD i 0 with
  | true => rfl
  | false => exact ih (i + 1) (by omega) f (by omega)
def I108 : (R : Type) → List DV → (List DV → Option R) → Option R := fun _ ds k => match ds with
 | [.lst (.one .i64) 1 xs, .v (.one (.int .i64 x))] => bif Nat.ble xs.length 1073741823 then k [.v (.one (.int .i64 (idxE xs x xs.length 0)))] else none
 | _ => none
theorem c108 : Contract Tryz.prog 108 { sig := S108, impl := I108 } := by
 refine Contract.refine fun R ds k r h => ?_
 unfold I108 at h
 split at h
 ·
  rename_i xs x
  refine ⟨_, f108_contract (xs.length + 1) GT2_ok, ?_⟩
  cases hc : Nat.ble xs.length 1073741823 with
  | false => rw [hc] at h; cases h
  | true =>
   rw [hc, cond_true] at h
   rw [f108_raw_eq]
   unfold f108_raw
   rw [rows1]
   exact (f108_loop (N := xs.length + 1) (fun w => k [DV.v (SV.one (At.int IntKind.i64 w))]) rfl (Nat.le_of_ble_eq_true hc) xs.length 0 (by omega) (xs.length + 1) (by omega)).trans h
 ·
  exact (Option.some_ne_none _ h.symm).elim
def thrE (t : Int) : Int := bif decide (t < 1) || decide (t > 255) then 7 else 0
def I110 : (R : Type) → List DV → (List DV → Option R) → Option R := fun _ ds k => match ds with
 | [.v (.one (.int .i64 t))] => k [.v (.one (.int .i64 (thrE t)))]
 | _ => none
theorem c110 : Contract Tryz.prog 110 { sig := S110, impl := I110 } := by
 refine Contract.refine fun R ds k r h => ⟨_, f110_contract 0 GT2_ok, ?_⟩
 unfold I110 at h
 split at h
 ·
  rename_i t
  rw [f110_raw_eq]
  unfold f110_raw
  unfold thrE at h
  cases h1 : decide (t < 1) with
  | true => rw [h1] at h; exact h
  | false =>
   rw [h1, Bool.false_or] at h
   rw [cond_false]
   dsimp only
   rw [cond_false]
   cases h2 : decide (t > 255) with
   | true => rw [h2] at h; exact h
   | false => rw [h2] at h; exact h
 ·
  cases h
def shId (s : List Int) (i : Nat) : Int := s.getD (i * 33) 0
def shV (s : List Int) (i : Nat) : List Int := List.take 32 (List.drop (i * 33 + 1) s)
def allB (f : Nat → Bool) : Nat → Bool
 | 0 => true
 | n + 1 => allB f n && f n
theorem allB_iff {f : Nat → Bool} : ∀ {n}, allB f n = true ↔ ∀ i, i < n → f i = true
 | 0 => by simp [allB]
 | n + 1 => by
  unfold allB
  rw [Bool.and_eq_true, allB_iff (n := n)]
  constructor
  ·
   rintro ⟨h1, h2⟩ i hi
   by_cases e : i = n
   ·
    subst e; exact h2
   ·
    exact h1 i (by omega)
  ·
   exact fun h => ⟨fun i hi => h i (by omega), h n (by omega)⟩
def okS (s : List Int) : Bool := (Nat.beq (s.length % 33) 0 && Nat.ble s.length 1073741824) && allB (fun i => okB (shV s i)) (s.length / 33)
theorem okS_n {s : List Int} (h : okS s = true) : s.length = (s.length / 33) * 33 ∧ s.length ≤ 1073741824 ∧ ∀ i, i < s.length / 33 → okB (shV s i) = true := by
 unfold okS at h
 simp only [Bool.and_eq_true] at h
 have h1 := Nat.eq_of_beq_eq_true h.1.1
 have h2 := Nat.le_of_ble_eq_true h.1.2
 exact ⟨by omega, h2, allB_iff.1 h.2⟩
def idsS (s : List Int) (n : Nat) : List Int := headG (fun i => [shId s i]) n
def ptsS (s : List Int) (n : Nat) : List Int := headG (fun i => sN (plN (shId s i)) ++ (shV s i ++ [])) n
theorem idsS_len (s : List Int) (n : Nat) : (idsS s n).length = n := by
 have := headG_lenK (g := fun i => [shId s i]) (K := 1) (fun i => rfl) n
 unfold idsS; omega
theorem idsS_get (s : List Int) {i n : Nat} (h : i < n) : (idsS s n).getD i 0 = shId s i := by
 obtain ⟨C, hC⟩ := headG_split (fun i => [shId s i]) h
 have hl : (headG (fun i => [shId s i]) i).length = i := idsS_len s i
 unfold idsS
 rw [hC, List.getD_eq_getElem?_getD, List.getElem?_append_right (by omega), hl, Nat.sub_self]; rfl
theorem ptsS_len {s : List Int} (hs : okS s = true) : ∀ n, n ≤ s.length / 33 → (ptsS s n).length = n * 64
 | 0, _ => rfl
 | n + 1, h => by
  have ih := ptsS_len hs n (by omega)
  show (ptsS s n ++ (sN (plN (shId s n)) ++ (shV s n ++ []))).length = _
  rw [List.length_append, ih, List.length_append, sN_len, List.append_nil, okB_len' ((okS_n hs).2.2 n (by omega))]; omega
theorem ptsS_x {s : List Int} (hs : okS s = true) {i n : Nat} (h : i < n) (hn : n ≤ s.length / 33) : ptX (ptsS s n) i = sN (plN (shId s i)) ∧ ptY (ptsS s n) i = shV s i := by
 obtain ⟨C, hC⟩ := headG_split (fun i => sN (plN (shId s i)) ++ (shV s i ++ [])) h
 have hl : (headG (fun i => sN (plN (shId s i)) ++ (shV s i ++ [])) i).length = i * 64 := ptsS_len hs i (by omega)
 have hv := okB_len' ((okS_n hs).2.2 i (by omega))
 have e : (ptsS s n).drop (i * 64) = sN (plN (shId s i)) ++ (shV s i ++ C) := by
  unfold ptsS
  rw [hC, List.drop_left' hl, List.append_nil, List.append_assoc]
 constructor
 ·
  unfold ptX; rw [e, List.take_left' (sN_len _)]
 ·
  unfold ptY
  rw [← List.drop_drop, e, List.drop_left' (sN_len _), List.take_left' hv]
theorem ptsS_ok {s : List Int} (hs : okS s = true) {n : Nat} (hn : n ≤ s.length / 33) (hb : n ≤ 1048576) : okP (ptsS s n) = true := by
 unfold okP
 rw [Bool.and_eq_true, Bool.and_eq_true]
 refine ⟨⟨?_, ?_⟩, ?_⟩
 ·
  rw [ptsS_len hs n hn, Nat.mul_mod_left]; rfl
 ·
  rw [ptsS_len hs n hn]; exact Nat.ble_eq ▸ (by omega)
 ·
  rw [List.all_eq_true]
  clear hb
  induction n with
  | zero => intro b hb; cases hb
  | succ n ih =>
   intro b hb
   have hb : b ∈ ptsS s n ++ (sN (plN (shId s n)) ++ (shV s n ++ [])) := hb
   have all : ∀ x : List Int, okB x = true → b ∈ x → (decide (0 ≤ b) && decide (b < 256)) = true := fun x hx hm => by
    unfold okB at hx
    rw [Bool.and_eq_true, List.all_eq_true] at hx
    exact hx.2 b hm
   rcases List.mem_append.1 hb with hb | hb
   ·
    exact ih (by omega) b hb
   ·
    rcases List.mem_append.1 hb with hb | hb
    ·
     exact all _ (okB_sN _) hb
    ·
     rw [List.append_nil] at hb
     exact all _ ((okS_n hs).2.2 n (by omega)) hb
theorem f102_loop {R : Type} {N : Nat} (k1 : Bool → Int → Int → List Int → List Int → List Int → Option R) {s : List Int} {n : Nat} (hs : okS s = true) (hn : s.length / 33 = n) :
  ∀ j i : Nat, i + j = n → ∀ fuel, j < fuel → f102_0_lp N k1 fuel (n : Int) (i : Int) (idsS s i) (ptsS s i) s = k1 false (n : Int) (n : Int) (idsS s n) (ptsS s n) s := by
 obtain ⟨b1, b2, b3⟩ := okS_n hs
 intro j
 induction j with
 | zero =>
  intro i h fuel hf
  obtain ⟨f, rfl⟩ : ∃ f, fuel = f + 1 := ⟨fuel - 1, by omega⟩
  show f102_0_st N (f102_0_lp N _ f) _ _ _ _ _ _ = _
  unfold f102_0_st
  rw [ltF (by omega), cond_false, show i = n by omega]
 | succ j ih =>
  intro i h fuel hf
  obtain ⟨f, rfl⟩ : ∃ f, fuel = f + 1 := ⟨fuel - 1, by omega⟩
  show f102_0_st N (f102_0_lp N _ f) _ _ _ _ _ _ = _
  unfold f102_0_st
  have hv := okB_len' (b3 i (by omega))
  have e1 : s.getD (Int.toNat (i : Int) * 33 + 0) 0 = shId s i := rfl
  have e2 : List.take 32 (List.drop (Int.toNat (i : Int) * 33 + (0 + 1)) s) = shV s i := rfl
  have e3 : (zerosOf (1 * 1)).set 0 (shId s i) = [shId s i] := rfl
  have r1 : rowLen 1 (idsS s i) = i := idsS_len s i
  have r2 : rowLen 1 [shId s i] = 1 := rfl
  have r3 : rowLen 64 (ptsS s i) = i := by show (ptsS s i).length / 64 = i; rw [ptsS_len hs i (by omega)]; omega
  have r4 : rowLen 64 (sN (plN (shId s i)) ++ (shV s i ++ []) ++ []) = 1 := by
   show (sN (plN (shId s i)) ++ (shV s i ++ []) ++ []).length / 64 = 1
   rw [List.append_nil, List.length_append, sN_len, List.append_nil, hv]
  have hle1 : (Nat.ble ((2 * (i + 1) + 192) * 8) big48 && Nat.ble (i + 1) big48) = true := by
   rw [Bool.and_eq_true, Nat.ble_eq, Nat.ble_eq]; unfold big48; omega
  have hle2 : (Nat.ble ((2 * (i + 1) + 192) * 64) big48 && Nat.ble (i + 1) big48) = true := by
   rw [Bool.and_eq_true, Nat.ble_eq, Nat.ble_eq]; unfold big48; omega
  have hr : nI (rowLen 33 s) = (n : Int) := by show (((s.length / 33 : Nat)) : Int) = _; rw [hn]
  dsimp only
  rw [ltT (show i < n by omega), hr, ge0, ltT (show i < n by omega), e1, e2, e3, r1, r2, hle1, r3, r4, hle2, wAdd (by omega), show sN (plN (shId s i)) ++ (shV s i ++ []) ++ [] = sN (plN (shId s i)) ++ (shV s i ++ []) from List.append_nil _]
  simp only [Bool.and_self, cond_true]
  exact ih (i + 1) (by omega) f (by omega)
def I102 : (R : Type) → List DV → (List DV → Option R) → Option R := fun _ ds k => match ds with
 | [.lst (.mix l) 33 s] => match cksEq l ck78 with
  | true => bif okS s then k [.lst (.one .i64) 1 (idsS s (s.length / 33)), .lst (.mix ck105) 64 (ptsS s (s.length / 33))] else none
  | false => none
 | _ => none
theorem c102 : Contract Tryz.prog 102 { sig := S102, impl := I102 } := by
 refine Contract.refine fun R ds k r h => ?_
 unfold I102 at h
 split at h
 ·
  rename_i l s
  refine ⟨_, f102_contract (s.length / 33 + 1) GT2_ok, ?_⟩
  split at h
  ·
   rename_i hl
   have hl := cksEq_iff.1 hl
   subst hl
   cases hc : okS s with
   | false => rw [hc] at h; cases h
   | true =>
    rw [hc, cond_true] at h
    show call (E102 (s.length / 33 + 1)) S102 31 B102 R102 [DV.lst (RK.mix ck78) 33 s] k = some r
    rw [f102_raw_eq]
    unfold f102_raw
    exact (f102_loop (N := s.length / 33 + 1) _ hc rfl (s.length / 33) 0 (by omega) (s.length / 33 + 1) (by omega)).trans h
  ·
   cases h
 ·
  cases h
end
end Go.Proofs.YtogcijgklnfjjaaGreat
namespace Go.Proofs.YtogcijgklnfjjaaGreat
noncomputable section
open Go Go.Eng Go.ChangeShapes Go.WideShapes Go.RowKit Go.ChangeAt
set_option maxRecDepth 100000
set_option linter.unusedVariables false
theorem okS_row {x : List Int} {len : Nat} (hm : len ≤ 1048576) (hl : x.length = len * 33) (hw : ∀ i y, x[i]? = some y → WfC (ckAt ck78 (i % 33)) y) : okS x = true := by
 unfold okS
 rw [hl, Nat.mul_mod_left, show Nat.ble (len * 33) 1073741824 = true from Nat.ble_eq_true_of_le (by omega), show len * 33 / 33 = len by omega]
 rw [show (Nat.beq 0 0 && true) = true from rfl, Bool.true_and]
 refine allB_iff.2 fun i hi => ?_
 unfold shV
 refine okB_row (by rw [List.length_take, List.length_drop, hl]; omega) fun y hy => ?_
 obtain ⟨j, hj⟩ := List.getElem?_of_mem hy
 have hj32 : j < 32 := by
  by_cases h : j < 32
  ·
   exact h
  ·
   rw [List.getElem?_eq_none (by rw [List.length_take]; omega)] at hj; cases hj
 rw [List.getElem?_take_of_lt hj32, List.getElem?_drop] at hj
 have h1 := hw _ y hj
 rw [show (i * 33 + 1 + j) % 33 = j + 1 by omega, ck78_at _ (by omega), if_neg (by omega)] at h1
 exact h1
end
end Go.Proofs.YtogcijgklnfjjaaGreat
namespace Go.Proofs.YtogcijgklnfjjaaGreat
noncomputable section
open Go Go.Eng
set_option maxRecDepth 100000
set_option linter.unusedVariables false
def Th3 : Types := [(3, ⟨.int .i64, 1, 8, [.int .i64 0]⟩),
 (4, ⟨.bool, 1, 1, [.bool false]⟩),
 (5, ⟨.int .u8, 1, 1, [.int .u8 0]⟩),
 (22, ⟨.slice 78, 1, 24, [.nils]⟩),
 (23, ⟨.slice 118, 1, 24, [.nils]⟩),
 (24, ⟨.slice 41, 1, 24, [.nils]⟩),
 (25, ⟨.slice 120, 1, 24, [.nils]⟩),
 (26, ⟨.slice 122, 1, 24, [.nils]⟩),
 (27, ⟨.slice 40, 1, 24, [.nils]⟩),
 (28, ⟨.slice 124, 1, 24, [.nils]⟩),
 (29, ⟨.slice 126, 1, 24, [.nils]⟩),
 (30, ⟨.slice 128, 1, 24, [.nils]⟩),
 (31, ⟨.slice 22, 1, 24, [.nils]⟩),
 (32, ⟨.slice 130, 1, 24, [.nils]⟩),
 (33, ⟨.slice 132, 1, 24, [.nils]⟩),
 (34, ⟨.slice 134, 1, 24, [.nils]⟩),
 (35, ⟨.slice 136, 1, 24, [.nils]⟩),
 (36, ⟨.slice 138, 1, 24, [.nils]⟩),
 (37, ⟨.slice 140, 1, 24, [.nils]⟩),
 (39, ⟨.struct [(23, 0), (23, 1), (24, 2), (24, 3), (25, 4), (25, 5), (26, 6), (26, 7), (27, 8), (27, 9), (28, 10), (28, 11), (29, 12), (29, 13), (30, 14), (30, 15), (31, 16), (31, 17), (32, 18), (32, 19), (33, 20), (33, 21), (34, 22), (34, 23), (35, 24), (35, 25), (36, 26), (36, 27), (37, 28), (37, 29)], 30, 720, [.nils, .nils, .nils, .nils, .nils, .nils, .nils, .nils, .nils, .nils, .nils, .nils, .nils, .nils, .nils, .nils, .nils, .nils, .nils, .nils, .nils, .nils, .nils, .nils, .nils, .nils, .nils, .nils, .nils, .nils]⟩),
 (40, ⟨.slice 54, 1, 24, [.nils]⟩),
 (41, ⟨.slice 3, 1, 24, [.nils]⟩),
 (54, ⟨.array 32 5, 32, 32, [.ints .u8 32 (List.replicate 32 0)]⟩),
 (78, ⟨.struct [(3, 0), (54, 1)], 33, 40, [.int .i64 0, .ints .u8 32 (List.replicate 32 0)]⟩),
 (118, ⟨.slice 5, 1, 24, [.nils]⟩),
 (120, ⟨.slice 174, 1, 24, [.nils]⟩),
 (122, ⟨.slice 179, 1, 24, [.nils]⟩),
 (124, ⟨.slice 180, 1, 24, [.nils]⟩),
 (126, ⟨.slice 181, 1, 24, [.nils]⟩),
 (128, ⟨.slice 182, 1, 24, [.nils]⟩),
 (130, ⟨.slice 183, 1, 24, [.nils]⟩),
 (132, ⟨.slice 184, 1, 24, [.nils]⟩),
 (134, ⟨.slice 186, 1, 24, [.nils]⟩),
 (136, ⟨.slice 188, 1, 24, [.nils]⟩),
 (138, ⟨.slice 190, 1, 24, [.nils]⟩),
 (140, ⟨.slice 192, 1, 24, [.nils]⟩),
 (174, ⟨.int .u32, 1, 4, [.int .u32 0]⟩),
 (179, ⟨.array 32 5, 32, 32, [.ints .u8 32 (List.replicate 32 0)]⟩),
 (180, ⟨.array 32 5, 32, 32, [.ints .u8 32 (List.replicate 32 0)]⟩),
 (181, ⟨.array 32 5, 32, 32, [.ints .u8 32 (List.replicate 32 0)]⟩),
 (182, ⟨.array 32 5, 32, 32, [.ints .u8 32 (List.replicate 32 0)]⟩),
 (183, ⟨.struct [(3, 0), (54, 1)], 33, 40, [.int .i64 0, .ints .u8 32 (List.replicate 32 0)]⟩),
 (184, ⟨.struct [(3, 0), (54, 1)], 33, 40, [.int .i64 0, .ints .u8 32 (List.replicate 32 0)]⟩),
 (186, ⟨.struct [(3, 0), (180, 1), (180, 33)], 65, 72, [.int .i64 0, .ints .u8 32 (List.replicate 32 0), .ints .u8 32 (List.replicate 32 0)]⟩),
 (188, ⟨.struct [(3, 0), (180, 1)], 33, 40, [.int .i64 0, .ints .u8 32 (List.replicate 32 0)]⟩),
 (190, ⟨.struct [(3, 0), (3, 1), (54, 2)], 34, 48, [.int .i64 0, .int .i64 0, .ints .u8 32 (List.replicate 32 0)]⟩),
 (192, ⟨.struct [(3, 0), (3, 1)], 2, 16, [.int .i64 0, .int .i64 0]⟩)]
theorem thOk3 : TypesOk Tryz.prog Th3 := tysB_ok (by kernel_rfl)
def hiL : List Nat := [0, hiN, hiN + 1, hiN + 2, hiN + 3, hiN + 4, hiN + 5, hiN + 6, hiN + 7, hiN + 8, hiN + 9, hiN + 10, hiN + 11]
def B9 : Code := (Tryz.f9.body.getD .skip)
def R9 : List ResultVar := [.tmp 4]
def K9 : List Nat := [0, 1, 4, 5, 6, 7, 15, 26]
def N9_2 : Nrm := { slots := [.tmp 0, .tmp 1, .tmp 5, .tmp 7], items := [1, 11] }
def N9_0 : Nrm := { slots := [.tmp 0, .tmp 1, .tmp 5, .tmp 6], items := [1, 11] }
def B9_2 : Code := bodyIn 2 (loopsIn B9)
def B9_0 : Code := bodyIn 0 (loopsIn B9)
def N9 : Nrms := [(2, N9_2), (0, N9_0)]
theorem ok9 : FnOk Tryz.prog 9 Tryz.f9 61 B9 R9 := ⟨by kernel_rfl, by kernel_rfl, by kernel_rfl, by kernel_rfl, by decide +kernel⟩
def B14 : Code := (Tryz.f14.body.getD .skip)
def R14 : List ResultVar := [.tmp 2]
def K14 : List Nat := [0, 2, 3, 4, 5, 6, 7, 8, 9, 10, 11, 12, 13, 14, 15, 16, 17, 24, 42, 49, 67, 74, 92, 99, 117, 124, 142, 149, 167, 174, 192, 199, 217, 224, 242, 249, 267, 274, 292, 299, 317, 324, 342, 349, 367, 374, 392]
def N14_28 : Nrm := { slots := [.tmp 0, .tmp 17], items := hiL }
def N14_26 : Nrm := { slots := [.tmp 0, .tmp 16], items := hiL }
def N14_24 : Nrm := { slots := [.tmp 0, .tmp 15], items := hiL }
def N14_22 : Nrm := { slots := [.tmp 0, .tmp 14], items := hiL }
def N14_20 : Nrm := { slots := [.tmp 0, .tmp 13], items := hiL }
def N14_18 : Nrm := { slots := [.tmp 0, .tmp 12], items := hiL }
def N14_16 : Nrm := { slots := [.tmp 0, .tmp 11], items := hiL }
def N14_14 : Nrm := { slots := [.tmp 0, .tmp 10], items := hiL }
def N14_12 : Nrm := { slots := [.tmp 0, .tmp 9], items := hiL }
def N14_10 : Nrm := { slots := [.tmp 0, .tmp 8], items := hiL }
def N14_8 : Nrm := { slots := [.tmp 0, .tmp 7], items := hiL }
def N14_6 : Nrm := { slots := [.tmp 0, .tmp 6], items := hiL }
def N14_4 : Nrm := { slots := [.tmp 0, .tmp 5], items := hiL }
def N14_2 : Nrm := { slots := [.tmp 0, .tmp 4], items := hiL }
def N14_0 : Nrm := { slots := [.tmp 0, .tmp 3], items := hiL }
def B14_28 : Code := bodyIn 28 (loopsIn B14)
def B14_26 : Code := bodyIn 26 (loopsIn B14)
def B14_24 : Code := bodyIn 24 (loopsIn B14)
def B14_22 : Code := bodyIn 22 (loopsIn B14)
def B14_20 : Code := bodyIn 20 (loopsIn B14)
def B14_18 : Code := bodyIn 18 (loopsIn B14)
def B14_16 : Code := bodyIn 16 (loopsIn B14)
def B14_14 : Code := bodyIn 14 (loopsIn B14)
def B14_12 : Code := bodyIn 12 (loopsIn B14)
def B14_10 : Code := bodyIn 10 (loopsIn B14)
def B14_8 : Code := bodyIn 8 (loopsIn B14)
def B14_6 : Code := bodyIn 6 (loopsIn B14)
def B14_4 : Code := bodyIn 4 (loopsIn B14)
def B14_2 : Code := bodyIn 2 (loopsIn B14)
def B14_0 : Code := bodyIn 0 (loopsIn B14)
def N14 : Nrms := [(28, N14_28), (26, N14_26), (24, N14_24), (22, N14_22), (20, N14_20), (18, N14_18), (16, N14_16), (14, N14_14), (12, N14_12), (10, N14_10), (8, N14_8), (6, N14_6), (4, N14_4), (2, N14_2), (0, N14_0)]
theorem ok14 : FnOk Tryz.prog 14 Tryz.f14 393 B14 R14 := ⟨by kernel_rfl, by kernel_rfl, by kernel_rfl, by kernel_rfl, by decide +kernel⟩
def f65_raw {R : Type} (N : Nat) (i j : Int) (k : List DV → Option R) : Option R :=
 let v0 := IntKind.u8.wrap i;
let v1 := (List.replicate 32 0).set 0 v0;
let v2 := shrI .i64 i 8;
let v3 := IntKind.u8.wrap v2;
let v4 := v1.set 1 v3;
let v5 := IntKind.u8.wrap j;
let v6 := v4.set 2 v5;
let v7 := shrI .i64 j 8;
let v8 := IntKind.u8.wrap v7;
let v9 := v6.set 3 v8;
let v10 := v9.set 4 77;
k [.v (.one (.ints .u8 32 v10))]
def E65 (N : Nat) : Env := { Θ := Th, Γ := [], K := K65, ν := N65, fuel := 0, lp := [] }
theorem f65_contract (N : Nat) (hΓ : CtxOk Tryz.prog []) : Contract Tryz.prog 65 { sig := S65, impl := fun _ ds k => call (E65 N) S65 16 B65 R65 ds k } :=
 call_contract (E := E65 N) thOk hΓ mixed ok65.look ok65.body ok65.n ok65.rv ok65.name rfl (by decide) (loopsOk_of (l := []) (by kernel_rfl) trivial)
theorem f65_raw_eq {R : Type} (N : Nat) (i j : Int) (k : List DV → Option R) : call (E65 N) S65 16 B65 R65 [.v (.one (.int .i64 i)), .v (.one (.int .i64 j))] k = f65_raw N i j k := by kernel_rfl
def f66_raw {R : Type} (N : Nat) (xs : List Int) (k : List DV → Option R) : Option R :=
 bif (rowLen 32 xs * 32).ble big48 && (rowLen 32 xs).ble big48 then k [.lst (.one .u8) 32 xs] else none
def E66 (N : Nat) : Env := { Θ := Th, Γ := [], K := K66, ν := N66, fuel := 0, lp := [] }
theorem f66_contract (N : Nat) (hΓ : CtxOk Tryz.prog []) : Contract Tryz.prog 66 { sig := S66, impl := fun _ ds k => call (E66 N) S66 8 B66 R66 ds k } :=
 call_contract (E := E66 N) thOk hΓ mixed ok66.look ok66.body ok66.n ok66.rv ok66.name rfl (by decide) (loopsOk_of (l := []) (by kernel_rfl) trivial)
theorem f66_raw_eq {R : Type} (N : Nat) (xs : List Int) (k : List DV → Option R) : call (E66 N) S66 8 B66 R66 [.lst (.one .u8) 32 xs] k = f66_raw N xs k := by kernel_rfl
def f71_raw {R : Type} (N : Nat) (i j : Int) (k : List DV → Option R) : Option R :=
 let v0 := IntKind.i64.wrap (i + 1);
let v1 := IntKind.i64.wrap (100003 * v0);
let v2 := IntKind.i64.wrap (-1 - v1);
let v3 := IntKind.i64.wrap (7 * j);
let v4 := IntKind.i64.wrap (v2 - v3);
k [.v (.one (.int .i64 v4))]
def E71 (N : Nat) : Env := { Θ := Th, Γ := [], K := K71, ν := N71, fuel := 0, lp := [] }
theorem f71_contract (N : Nat) (hΓ : CtxOk Tryz.prog []) : Contract Tryz.prog 71 { sig := S71, impl := fun _ ds k => call (E71 N) S71 12 B71 R71 ds k } :=
 call_contract (E := E71 N) thOk hΓ mixed ok71.look ok71.body ok71.n ok71.rv ok71.name rfl (by decide) (loopsOk_of (l := []) (by kernel_rfl) trivial)
theorem f71_raw_eq {R : Type} (N : Nat) (i j : Int) (k : List DV → Option R) : call (E71 N) S71 12 B71 R71 [.v (.one (.int .i64 i)), .v (.one (.int .i64 j))] k = f71_raw N i j k := by kernel_rfl
def f72_raw {R : Type} (N : Nat) (xs : List Int) (k : List DV → Option R) : Option R :=
 bif (rowLen 1 xs * 8).ble big48 && (rowLen 1 xs).ble big48 then k [.lst (.one .i64) 1 xs] else none
def E72 (N : Nat) : Env := { Θ := Th, Γ := [], K := K72, ν := N72, fuel := 0, lp := [] }
theorem f72_contract (N : Nat) (hΓ : CtxOk Tryz.prog []) : Contract Tryz.prog 72 { sig := S72, impl := fun _ ds k => call (E72 N) S72 8 B72 R72 ds k } :=
 call_contract (E := E72 N) thOk hΓ mixed ok72.look ok72.body ok72.n ok72.rv ok72.name rfl (by decide) (loopsOk_of (l := []) (by kernel_rfl) trivial)
theorem f72_raw_eq {R : Type} (N : Nat) (xs : List Int) (k : List DV → Option R) : call (E72 N) S72 8 B72 R72 [.lst (.one .i64) 1 xs] k = f72_raw N xs k := by kernel_rfl
def f44_raw {R : Type} (N : Nat) (i j : Int) (k : List DV → Option R) : Option R :=
 let v0 := IntKind.i64.wrap (i + 1);
let v1 := IntKind.i64.wrap (-1000003 * v0);
let v2 := IntKind.i64.wrap (v1 - j);
k [.v (.agg [.int .i64 v2, .ints .u8 32 (List.replicate 32 0)])]
def E44 (N : Nat) : Env := { Θ := Th, Γ := [], K := K44, ν := N44, fuel := 0, lp := [] }
theorem f44_contract (N : Nat) (hΓ : CtxOk Tryz.prog []) : Contract Tryz.prog 44 { sig := S44, impl := fun _ ds k => call (E44 N) S44 11 B44 R44 ds k } :=
 call_contract (E := E44 N) thOk hΓ mixed ok44.look ok44.body ok44.n ok44.rv ok44.name rfl (by decide) (loopsOk_of (l := []) (by kernel_rfl) trivial)
theorem f44_raw_eq {R : Type} (N : Nat) (i j : Int) (k : List DV → Option R) : call (E44 N) S44 11 B44 R44 [.v (.one (.int .i64 i)), .v (.one (.int .i64 j))] k = f44_raw N i j k := by kernel_rfl
def f45_raw {R : Type} (N : Nat) (xs : List Int) (k : List DV → Option R) : Option R :=
 bif (rowLen 33 xs * 40).ble big48 && (rowLen 33 xs).ble big48 then k [.lst (.mix ck78) 33 xs] else none
def E45 (N : Nat) : Env := { Θ := Th, Γ := [], K := K45, ν := N45, fuel := 0, lp := [] }
theorem f45_contract (N : Nat) (hΓ : CtxOk Tryz.prog []) : Contract Tryz.prog 45 { sig := S45, impl := fun _ ds k => call (E45 N) S45 8 B45 R45 ds k } :=
 call_contract (E := E45 N) thOk hΓ mixed ok45.look ok45.body ok45.n ok45.rv ok45.name rfl (by decide) (loopsOk_of (l := []) (by kernel_rfl) trivial)
theorem f45_raw_eq {R : Type} (N : Nat) (xs : List Int) (k : List DV → Option R) : call (E45 N) S45 8 B45 R45 [.lst (.mix ck78) 33 xs] k = f45_raw N xs k := by kernel_rfl
def mS (i j : Int) : List Int := (((((List.replicate 32 0).set 0 (IntKind.u8.wrap i)).set 1 (IntKind.u8.wrap (shrI IntKind.i64 i 8))).set 2 (IntKind.u8.wrap j)).set 3 (IntKind.u8.wrap (shrI IntKind.i64 j 8))).set 4 77
def mI (i j : Int) : Int := IntKind.i64.wrap (IntKind.i64.wrap (-1 - IntKind.i64.wrap (100003 * IntKind.i64.wrap (i + 1))) - IntKind.i64.wrap (7 * j))
def mH (i j : Int) : Int := IntKind.i64.wrap (IntKind.i64.wrap (-1000003 * IntKind.i64.wrap (i + 1)) - j)
def I65 : (R : Type) → List DV → (List DV → Option R) → Option R := fun _ ds k => match ds with
 | [.v (.one (.int .i64 i)), .v (.one (.int .i64 j))] => k [.v (.one (.ints .u8 32 (mS i j)))]
 | _ => none
theorem c65 : Contract Tryz.prog 65 { sig := S65, impl := I65 } := by
 refine Contract.refine fun R ds k r h => ⟨_, f65_contract 0 ctxOk_nil, ?_⟩
 unfold I65 at h
 split at h
 ·
  rw [f65_raw_eq]; exact h
 ·
  cases h
def I71 : (R : Type) → List DV → (List DV → Option R) → Option R := fun _ ds k => match ds with
 | [.v (.one (.int .i64 i)), .v (.one (.int .i64 j))] => k [.v (.one (.int .i64 (mI i j)))]
 | _ => none
theorem c71 : Contract Tryz.prog 71 { sig := S71, impl := I71 } := by
 refine Contract.refine fun R ds k r h => ⟨_, f71_contract 0 ctxOk_nil, ?_⟩
 unfold I71 at h
 split at h
 ·
  rw [f71_raw_eq]; exact h
 ·
  cases h
def I44 : (R : Type) → List DV → (List DV → Option R) → Option R := fun _ ds k => match ds with
 | [.v (.one (.int .i64 i)), .v (.one (.int .i64 j))] => k [.v (.agg [.int .i64 (mH i j), .ints .u8 32 (List.replicate 32 0)])]
 | _ => none
theorem c44 : Contract Tryz.prog 44 { sig := S44, impl := I44 } := by
 refine Contract.refine fun R ds k r h => ⟨_, f44_contract 0 ctxOk_nil, ?_⟩
 unfold I44 at h
 split at h
 ·
  rw [f44_raw_eq]; exact h
 ·
  cases h
def I66 : (R : Type) → List DV → (List DV → Option R) → Option R := fun _ ds k => match ds with
 | [.lst (.one .u8) 32 xs] => bif Nat.ble (rowLen 32 xs * 32) big48 && Nat.ble (rowLen 32 xs) big48 then k [.lst (.one .u8) 32 xs] else none
 | _ => none
theorem c66 : Contract Tryz.prog 66 { sig := S66, impl := I66 } := by
 refine Contract.refine fun R ds k r h => ⟨_, f66_contract 0 ctxOk_nil, ?_⟩
 unfold I66 at h
 split at h
 ·
  rw [f66_raw_eq]; exact h
 ·
  cases h
def I72 : (R : Type) → List DV → (List DV → Option R) → Option R := fun _ ds k => match ds with
 | [.lst (.one .i64) 1 xs] => bif Nat.ble (rowLen 1 xs * 8) big48 && Nat.ble (rowLen 1 xs) big48 then k [.lst (.one .i64) 1 xs] else none
 | _ => none
theorem c72 : Contract Tryz.prog 72 { sig := S72, impl := I72 } := by
 refine Contract.refine fun R ds k r h => ⟨_, f72_contract 0 ctxOk_nil, ?_⟩
 unfold I72 at h
 split at h
 ·
  rw [f72_raw_eq]; exact h
 ·
  cases h
def GG0 : Ctx := (65, { sig := S65, impl := I65 }) :: (66, { sig := S66, impl := I66 }) :: (71, { sig := S71, impl := I71 }) :: (72, { sig := S72, impl := I72 }) :: (44, { sig := S44, impl := I44 }) :: []
theorem GG0_ok : CtxOk Tryz.prog GG0 := ctxOk_cons ok65 rfl c65 (ctxOk_cons ok66 rfl c66 (ctxOk_cons ok71 rfl c71 (ctxOk_cons ok72 rfl c72 (ctxOk_cons ok44 rfl c44 ctxOk_nil))))
theorem blk_set {g : Nat → List Int} {K : Nat} (hg : ∀ j, (g j).length = K) {w : List Int} (hw : w.length = K) {i n : Nat} (h : i < n) :
  splice (headG g n) (.at (i * K)) w = headG (fun j => if j = i then w else g j) n := by
 have e1 : ∀ m, m ≤ i → headG (fun j => if j = i then w else g j) m = headG g m := by
  intro m
  induction m with
  | zero => intro _; rfl
  | succ m ih => intro hm; show headG _ m ++ (if m = i then w else g m) = headG g m ++ g m; rw [ih (by omega), if_neg (by omega)]
 have key : ∀ m, i < m → ∃ C, headG g m = headG g i ++ (g i ++ C) ∧ headG (fun j => if j = i then w else g j) m = headG g i ++ (w ++ C) := by
  intro m
  induction m with
  | zero => intro hm; omega
  | succ m ih =>
   intro hm
   by_cases e : m = i
   ·
    subst e
    refine ⟨[], ?_, ?_⟩
    ·
     show headG g m ++ g m = _; rw [List.append_nil]
    ·
     show headG _ m ++ (if m = m then w else g m) = _; rw [e1 m (Nat.le_refl _), if_pos rfl, List.append_nil]
   ·
    obtain ⟨C, h1, h2⟩ := ih (by omega)
    refine ⟨C ++ g m, ?_, ?_⟩
    ·
     show headG g m ++ g m = _; rw [h1]; simp only [List.append_assoc]
    ·
     show headG _ m ++ (if m = i then w else g m) = _; rw [h2, if_neg e]; simp only [List.append_assoc]
 obtain ⟨C, h1, h2⟩ := key n h
 rw [h1, h2]
 exact splice_mid (headG_lenK hg i) (by rw [hg, hw])
set_option linter.unusedVariables false
theorem blk_all {K : Nat} : ∀ {n : Nat} {x : List Int}, x.length = n * K → headG (fun i => List.take K (List.drop (i * K) x)) n = x := by
 have key : ∀ (x : List Int) (n : Nat), n * K ≤ x.length → headG (fun i => List.take K (List.drop (i * K) x)) n = x.take (n * K) := by
  intro x n
  induction n with
  | zero => intro _; rw [Nat.zero_mul]; rfl
  | succ n ih =>
   intro h
   have e : (n + 1) * K = n * K + K := Nat.succ_mul n K
   show headG (fun i => List.take K (List.drop (i * K) x)) n ++ List.take K (List.drop (n * K) x) = _
   rw [ih (by omega), e, List.take_add]
 intro n x h
 rw [key x n (by omega), List.take_of_length_le (by omega)]
def upTo (w g : Nat → List Int) (i j : Nat) : List Int := if j < i then w j else g j
theorem upTo_len {w g : Nat → List Int} {K : Nat} (hw : ∀ j, (w j).length = K) (hg : ∀ j, (g j).length = K) (i j : Nat) : (upTo w g i j).length = K := by
 unfold upTo; split; exact hw j; exact hg j
theorem upTo_set {w g : Nat → List Int} {K : Nat} (hw : ∀ j, (w j).length = K) (hg : ∀ j, (g j).length = K) {i n : Nat} (h : i < n) :
  splice (headG (upTo w g i) n) (.at (i * K)) (w i) = headG (upTo w g (i + 1)) n := by
 rw [blk_set (upTo_len hw hg i) (hw i) h]
 congr 1
 funext j
 unfold upTo
 by_cases e : j = i
 ·
  subst e; rw [if_pos rfl, if_pos (by omega)]
 ·
  rw [if_neg e]
  by_cases e2 : j < i
  ·
   rw [if_pos e2, if_pos (by omega)]
  ·
   rw [if_neg e2, if_neg (by omega)]
theorem upTo_zero (w g : Nat → List Int) : upTo w g 0 = g := by funext j; unfold upTo; rw [if_neg (by omega)]
theorem headG_congr {f g : Nat → List Int} : ∀ {n : Nat}, (∀ i, i < n → f i = g i) → headG f n = headG g n
 | 0, _ => rfl
 | n + 1, h => by show headG f n ++ f n = headG g n ++ g n; rw [headG_congr (n := n) fun i hi => h i (by omega), h n (by omega)]
theorem upTo_all {w g : Nat → List Int} {n : Nat} : headG (upTo w g n) n = headG w n := headG_congr fun i hi => by unfold upTo; rw [if_pos hi]
def elP (x : List Int) (K i : Nat) : List Int := (List.take K (List.drop (i * K) x)) ++ List.replicate (K - (List.take K (List.drop (i * K) x)).length) 0
theorem elP_len (x : List Int) (K i : Nat) : (elP x K i).length = K := by
 unfold elP
 rw [List.length_append, List.length_replicate, List.length_take]; omega
theorem elP_in {x : List Int} {K i n : Nat} (hl : x.length = n * K) (hi : i < n) : elP x K i = List.take K (List.drop (i * K) x) := by
 have h1 : (i + 1) * K ≤ n * K := Nat.mul_le_mul_right K hi
 have h2 : (i + 1) * K = i * K + K := Nat.succ_mul i K
 have : (List.take K (List.drop (i * K) x)).length = K := by rw [List.length_take, List.length_drop]; omega
 unfold elP
 rw [this, Nat.sub_self]; simp
theorem blk_elP {x : List Int} {K n : Nat} (hl : x.length = n * K) : headG (elP x K) n = x := (headG_congr fun i hi => elP_in hl hi).trans (blk_all hl)
def okK (x : List Int) (K n : Nat) : Bool := Nat.beq x.length (n * K) && Nat.ble n 1073741823
theorem okK_iff {x : List Int} {K n : Nat} : okK x K n = true ↔ x.length = n * K ∧ n ≤ 1073741823 := by
 unfold okK
 rw [Bool.and_eq_true, Nat.beq_eq, Nat.ble_eq]
set_option linter.unusedVariables false
end
end Go.Proofs.YtogcijgklnfjjaaGreat
namespace Go.Eng
noncomputable section
open Go
set_option maxRecDepth 100000
set_option linter.unusedVariables false

end
end Go.Eng
namespace Go.Proofs.YtogcijgklnfjjaaGreat
noncomputable section
open Go Go.Eng
set_option maxRecDepth 100000
set_option linter.unusedVariables false
set_option linter.unusedVariables false
set_option linter.unusedVariables false
def GT4 : Ctx := (26, { sig := S26, impl := I26 }) :: (19, { sig := S19, impl := I19 }) :: (102, { sig := S102, impl := I102 }) :: (76, { sig := S76, impl := I76 }) :: (77, { sig := S77, impl := I77 }) :: (108, { sig := S108, impl := I108 }) :: (110, { sig := S110, impl := I110 }) :: GT2
theorem GT4_ok : CtxOk Tryz.prog GT4 := ctxOk_cons ok26 rfl c26 (ctxOk_cons ok19 rfl c19 (ctxOk_cons ok102 rfl c102 (ctxOk_cons ok76 rfl c76 (ctxOk_cons ok77 rfl c77 (ctxOk_cons ok108 rfl c108 (ctxOk_cons ok110 rfl c110 GT2_ok))))))
def f105_0_sh : Shp := ⟨38, 2, [(5, .one (.fix (.own 17))), (22, .one (.slcE 0 0 64)), (23, .one (.int .i64)), (24, .one (.int .i64))], [(0, .view (.mix ck105) 64), (17, .row (.one .u8) 32)]⟩
def f105_0_ex1 : Shp := ⟨38, 2, [(4, .one .bool), (36, .one .bool), (8, .one (.fix (.ptr 8 0 .z 64))), (25, .one .bool), (5, .one (.fix (.own 17))), (22, .one (.slcE 0 0 64)), (23, .one (.int .i64)), (24, .one (.int .i64))], [(8, .obj [.ints .u8 32, .ints .u8 32]), (0, .view (.mix ck105) 64), (17, .row (.one .u8) 32)]⟩
def f105_0_ex2 : Shp := ⟨38, 2, [(25, .one .bool), (5, .one (.fix (.own 17))), (22, .one (.slcE 0 0 64)), (23, .one (.int .i64)), (24, .one (.int .i64))], [(0, .view (.mix ck105) 64), (17, .row (.one .u8) 32)]⟩
def f105_0_st {R : Type} (N : Nat) (self : Int → Int → Int → Int → List Int → List Int → Option R) (k1 : Bool → Bool → Bool → Int → Int → Int → Int → List Int → List Int → List Int → List Int → Option R) (k2 : Bool → Int → Int → Int → Int → List Int → List Int → Option R) (x1 x2 : Int) (x3 x4 : Int) (x5 x6 : List Int) : Option R :=
 bif decide (x4 < x3) then
 bif decide (0 ≤ x4) && decide (x4 < nI x2.toNat) then
 bif okF x6 && okB (List.take 32 (List.drop ((x1.toNat + x4.toNat) * 64 + 0) x5)) then
 bif okB (List.take 32 (List.drop ((x1.toNat + x4.toNat) * 64 + (0 + 32)) x5)) && okB (List.replicate 32 0) then
 bif !decide (sN (evN x6 (vS (List.take 32 (List.drop ((x1.toNat + x4.toNat) * 64 + 0) x5)))) = sN (addN (vS (List.take 32 (List.drop ((x1.toNat + x4.toNat) * 64 + (0 + 32)) x5))) (vS (List.replicate 32 0)))) then k1 false (!decide (sN (evN x6 (vS (List.take 32 (List.drop ((x1.toNat + x4.toNat) * 64 + 0) x5)))) = sN (addN (vS (List.take 32 (List.drop ((x1.toNat + x4.toNat) * 64 + (0 + 32)) x5))) (vS (List.replicate 32 0))))) (decide (x4 < x3)) (Int.ofNat x1.toNat) (Int.ofNat x2.toNat) x3 x4 (List.take 32 (List.drop ((x1.toNat + x4.toNat) * 64 + 0) x5)) (List.take 32 (List.drop ((x1.toNat + x4.toNat) * 64 + (0 + 32)) x5)) x5 x6
 else
 let v0 := IntKind.i64.wrap (x4 + 1);
 self (Int.ofNat x1.toNat) (Int.ofNat x2.toNat) x3 v0 x5 x6
 else none
 else none
 else none
else k2 (decide (x4 < x3)) (Int.ofNat x1.toNat) (Int.ofNat x2.toNat) x3 x4 x5 x6
def f105_0_lp {R : Type} (N : Nat) (k1 : Bool → Bool → Bool → Int → Int → Int → Int → List Int → List Int → List Int → List Int → Option R) (k2 : Bool → Int → Int → Int → Int → List Int → List Int → Option R) : Nat → Int → Int → Int → Int → List Int → List Int → Option R
 | 0, _, _, _, _, _, _ => none
 | n + 1, x1, x2, x3, x4, x5, x6 => f105_0_st N (f105_0_lp N k1 k2 n) k1 k2 x1 x2 x3 x4 x5 x6
def f105_0_F (N : Nat) : (R : Type) → List Leaf → (X → AS → Option R) → Option R := fun _ ls K => match ls with
 | [.i x1, .i x2, .i x3, .i x4, .l x5, .l x6] => f105_0_lp N (fun y1 y2 y3 y4 y5 y6 y7 y8 y9 y10 y11 => K (.ret) (fill f105_0_ex1 [.b y1, .b y2, .b y3, .i y4, .i y5, .i y6, .i y7, .l y8, .l y9, .l y10, .l y11])) (fun y1 y2 y3 y4 y5 y6 y7 => K .normal (fill f105_0_ex2 [.b y1, .i y2, .i y3, .i y4, .i y5, .l y6, .l y7])) N x1 x2 x3 x4 x5 x6
 | _ => none
def f105_raw {R : Type} (N : Nat) (p : List Int) (t : Int) (k : List DV → Option R) : Option R :=
 bif decide (t ≥ nI (rowLen 64 p)) then k [.v (.one (.bool true))]
else
 bif hiOk (some t) (rowLen 64 p) then
 let v0 := Go.Eng.sub p (.el 0 64 0) (Go.Eng.subN (hiNat (some t) (rowLen 64 p)) none * 64);
 bif okP v0 then bif badP v0 then bif loOk (some t) (hiInt none (rowLen 64 p)) then f105_0_lp N (fun w1_1 w1_2 w1_3 w1_4 w1_5 w1_6 w1_7 w1_8 w1_9 w1_10 w1_11 => k [.v (.one (.bool w1_1))]) (fun w2_1 w2_2 w2_3 w2_4 w2_5 w2_6 w2_7 => k [.v (.one (.bool true))]) N (Int.ofNat t.toNat) (Int.ofNat (Go.Eng.subN (hiNat none (rowLen 64 p)) (some t))) (nI (Go.Eng.subN (hiNat none (rowLen 64 p)) (some t))) 0 p [] else none else bif dupsP v0 then bif loOk (some t) (hiInt none (rowLen 64 p)) then f105_0_lp N (fun w3_1 w3_2 w3_3 w3_4 w3_5 w3_6 w3_7 w3_8 w3_9 w3_10 w3_11 => k [.v (.one (.bool w3_1))]) (fun w4_1 w4_2 w4_3 w4_4 w4_5 w4_6 w4_7 => k [.v (.one (.bool true))]) N (Int.ofNat t.toNat) (Int.ofNat (Go.Eng.subN (hiNat none (rowLen 64 p)) (some t))) (nI (Go.Eng.subN (hiNat none (rowLen 64 p)) (some t))) 0 p [] else none else bif loOk (some t) (hiInt none (rowLen 64 p)) then f105_0_lp N (fun w5_1 w5_2 w5_3 w5_4 w5_5 w5_6 w5_7 w5_8 w5_9 w5_10 w5_11 => k [.v (.one (.bool w5_1))]) (fun w6_1 w6_2 w6_3 w6_4 w6_5 w6_6 w6_7 => k [.v (.one (.bool true))]) N (Int.ofNat t.toNat) (Int.ofNat (Go.Eng.subN (hiNat none (rowLen 64 p)) (some t))) (nI (Go.Eng.subN (hiNat none (rowLen 64 p)) (some t))) 0 p (arrN (newtG (pX v0) (pY v0) (v0.length / 64)) (v0.length / 64)) else none else none
 else none
def E105 (N : Nat) : Env := { Θ := Th, Γ := GT4, K := K105, ν := N105, fuel := 0, lp := [(0, mkL N105_0 f105_0_sh (f105_0_F N))] }
theorem f105_0_st_eq {R : Type} (N : Nat) (K : X → AS → Option R) (n : Nat) (x1 x2 : Int) (x3 x4 : Int) (x5 x6 : List Int) : roundsOf (E105 N) N105_0 0 B105_0 K (n + 1) (fill f105_0_sh [.i x1, .i x2, .i x3, .i x4, .l x5, .l x6]) = f105_0_st N (fun x1 x2 x3 x4 x5 x6 => roundsOf (E105 N) N105_0 0 B105_0 K n (fill f105_0_sh [.i x1, .i x2, .i x3, .i x4, .l x5, .l x6])) (fun y1 y2 y3 y4 y5 y6 y7 y8 y9 y10 y11 => K (.ret) (fill f105_0_ex1 [.b y1, .b y2, .b y3, .i y4, .i y5, .i y6, .i y7, .l y8, .l y9, .l y10, .l y11])) (fun y1 y2 y3 y4 y5 y6 y7 => K .normal (fill f105_0_ex2 [.b y1, .i y2, .i y3, .i y4, .i y5, .l y6, .l y7])) x1 x2 x3 x4 x5 x6 := by kernel_rfl
theorem f105_0_lp_eq {R : Type} (N : Nat) (K : X → AS → Option R) : ∀ (n : Nat) (x1 x2 : Int) (x3 x4 : Int) (x5 x6 : List Int), roundsOf (E105 N) N105_0 0 B105_0 K n (fill f105_0_sh [.i x1, .i x2, .i x3, .i x4, .l x5, .l x6]) = f105_0_lp N (fun y1 y2 y3 y4 y5 y6 y7 y8 y9 y10 y11 => K (.ret) (fill f105_0_ex1 [.b y1, .b y2, .b y3, .i y4, .i y5, .i y6, .i y7, .l y8, .l y9, .l y10, .l y11])) (fun y1 y2 y3 y4 y5 y6 y7 => K .normal (fill f105_0_ex2 [.b y1, .i y2, .i y3, .i y4, .i y5, .l y6, .l y7])) n x1 x2 x3 x4 x5 x6
 | 0, _, _, _, _, _, _ => rfl
 | n + 1, x1, x2, x3, x4, x5, x6 => by
  rw [f105_0_st_eq, f105_0_lp, show (fun x1 x2 x3 x4 x5 x6 => roundsOf (E105 N) N105_0 0 B105_0 K n (fill f105_0_sh [.i x1, .i x2, .i x3, .i x4, .l x5, .l x6])) = f105_0_lp N (fun y1 y2 y3 y4 y5 y6 y7 y8 y9 y10 y11 => K (.ret) (fill f105_0_ex1 [.b y1, .b y2, .b y3, .i y4, .i y5, .i y6, .i y7, .l y8, .l y9, .l y10, .l y11])) (fun y1 y2 y3 y4 y5 y6 y7 => K .normal (fill f105_0_ex2 [.b y1, .i y2, .i y3, .i y4, .i y5, .l y6, .l y7])) n from by funext x1 x2 x3 x4 x5 x6; exact f105_0_lp_eq N K n x1 x2 x3 x4 x5 x6]
theorem f105_0_ok (N : Nat) (hlp : LoopsOk Tryz.prog (E105 N).lp B105_0) (hΓ : CtxOk Tryz.prog (E105 N).Γ) : LoopOk Tryz.prog (mkL N105_0 f105_0_sh (f105_0_F N)) 0 B105_0 := by
 refine loopOk_of (E := E105 N) thOk hΓ mixed hlp ?_
 intro R ls K r h
 unfold f105_0_F at h
 split at h
 ·
  exact ⟨N, by rw [f105_0_lp_eq]; exact h⟩
 ·
  cases h
theorem lok105_0 (N : Nat) (hΓ : CtxOk Tryz.prog GT4) : LoopOk Tryz.prog (mkL N105_0 f105_0_sh (f105_0_F N)) 0 B105_0 := f105_0_ok N (loopsOk_of (l := []) (by kernel_rfl) trivial) hΓ
theorem f105_contract (N : Nat) (hΓ : CtxOk Tryz.prog GT4) : Contract Tryz.prog 105 { sig := S105, impl := fun _ ds k => call (E105 N) S105 38 B105 R105 ds k } :=
 call_contract (E := E105 N) thOk hΓ mixed ok105.look ok105.body ok105.n ok105.rv ok105.name rfl (by decide) (loopsOk_of (l := [(0, B105_0)]) (by kernel_rfl) (allOk_cons (L := mkL N105_0 f105_0_sh (f105_0_F N)) rfl (lok105_0 N hΓ) trivial))
theorem f105_raw_eq {R : Type} (N : Nat) (p : List Int) (t : Int) (k : List DV → Option R) : call (E105 N) S105 38 B105 R105 [.lst (.mix ck105) 64 p, .v (.one (.int .i64 t))] k = f105_raw N p t k := by kernel_rfl
def f103_0_sh : Shp := ⟨37, 2, [(3, .one (.fix (.ptr 3 0 .z 32))), (4, .one (.fix (.ptr 4 0 .z 32))), (5, .one (.fix (.own 1000005))), (6, .one (.fix (.own 1000006))), (11, .one (.fix (.own 0))), (12, .one (.int .i64)), (13, .one (.int .i64))], [(1000005, .row (.one .u8) 32), (1000006, .row (.one .u8) 32), (0, .view (.mix ck105) 64), (3, .obj [.ints .u8 32]), (4, .obj [.ints .u8 32])]⟩
def f103_0_ex1 : Shp := ⟨37, 2, [(14, .one .bool), (3, .one (.fix (.ptr 3 0 .z 32))), (4, .one (.fix (.ptr 4 0 .z 32))), (5, .one (.fix (.own 1000005))), (6, .one (.fix (.own 1000006))), (11, .one (.fix (.own 0))), (12, .one (.int .i64)), (13, .one (.int .i64))], [(1000005, .row (.one .u8) 32), (1000006, .row (.one .u8) 32), (0, .view (.mix ck105) 64), (3, .obj [.ints .u8 32]), (4, .obj [.ints .u8 32])]⟩
def f103_0_st {R : Type} (N : Nat) (self : Int → Int → List Int → List Int → List Int → List Int → List Int → Option R) (k1 : Bool → Int → Int → List Int → List Int → List Int → List Int → List Int → Option R) (x1 x2 : Int) (x3 x4 : List Int) (x5 x6 x7 : List Int) : Option R :=
 bif decide (x2 < x1) then
 bif decide (0 ≤ x2) && decide (x2 < nI (rowLen 64 x5)) then
 let v0 := splice (zerosOf (1 * 32)) (.at (0 * 32)) (List.take 32 (List.drop (x2.toNat * 64 + 0) x5));
 bif ((2 * (rowLen 32 x3 + rowLen 32 v0) + 192) * 32).ble big48 && (rowLen 32 x3 + rowLen 32 v0).ble big48 then
 let v1 := splice (zerosOf (1 * 32)) (.at (0 * 32)) (List.take 32 (List.drop (x2.toNat * 64 + (0 + 32)) x5));
 bif ((2 * (rowLen 32 x4 + rowLen 32 v1) + 192) * 32).ble big48 && (rowLen 32 x4 + rowLen 32 v1).ble big48 then
 let v2 := IntKind.i64.wrap (x2 + 1);
 let v3 : List Int := x3 ++ v0;
 let v4 : List Int := x4 ++ v1;
 self x1 v2 v3 v4 x5 x6 x7
 else none
 else none
 else none
else k1 (decide (x2 < x1)) x1 x2 x3 x4 x5 x6 x7
def f103_0_lp {R : Type} (N : Nat) (k1 : Bool → Int → Int → List Int → List Int → List Int → List Int → List Int → Option R) : Nat → Int → Int → List Int → List Int → List Int → List Int → List Int → Option R
 | 0, _, _, _, _, _, _, _ => none
 | n + 1, x1, x2, x3, x4, x5, x6, x7 => f103_0_st N (f103_0_lp N k1 n) k1 x1 x2 x3 x4 x5 x6 x7
def f103_0_F (N : Nat) : (R : Type) → List Leaf → (X → AS → Option R) → Option R := fun _ ls K => match ls with
 | [.i x1, .i x2, .l x3, .l x4, .l x5, .l x6, .l x7] => f103_0_lp N (fun y1 y2 y3 y4 y5 y6 y7 y8 => K .normal (fill f103_0_ex1 [.b y1, .i y2, .i y3, .l y4, .l y5, .l y6, .l y7, .l y8])) N x1 x2 x3 x4 x5 x6 x7
 | _ => none
def f103_raw {R : Type} (N : Nat) (p x : List Int) (k : List DV → Option R) : Option R :=
 f103_0_lp N (fun w0_1 w0_2 w0_3 w0_4 w0_5 w0_6 w0_7 w0_8 => bif okF w0_4 && (okB w0_7 && ((w0_4.length / 32).ble 30000 && !sameX w0_4)) then bif okF (arrN (basG (numF w0_4) (vS w0_7) (w0_4.length / 32)) (w0_4.length / 32)) && okF w0_5 then bif ((arrN (basG (numF w0_4) (vS w0_7) (w0_4.length / 32)) (w0_4.length / 32)).length / 32).beq (w0_5.length / 32) then k [.v (.one (.ints .u8 32 (sN (dotF (arrN (basG (numF w0_4) (vS w0_7) (w0_4.length / 32)) (w0_4.length / 32)) w0_5 ((arrN (basG (numF w0_4) (vS w0_7) (w0_4.length / 32)) (w0_4.length / 32)).length / 32)))))] else k [.v (.one (.ints .u8 32 (List.replicate 32 0)))] else none else none) N (nI (rowLen 64 p)) 0 [] [] p x (List.replicate 32 0)
def E103 (N : Nat) : Env := { Θ := Th, Γ := GT4, K := K103, ν := N103, fuel := 0, lp := [(0, mkL N103_0 f103_0_sh (f103_0_F N))] }
theorem f103_0_st_eq {R : Type} (N : Nat) (K : X → AS → Option R) (n : Nat) (x1 x2 : Int) (x3 x4 : List Int) (x5 x6 x7 : List Int) : roundsOf (E103 N) N103_0 0 B103_0 K (n + 1) (fill f103_0_sh [.i x1, .i x2, .l x3, .l x4, .l x5, .l x6, .l x7]) = f103_0_st N (fun x1 x2 x3 x4 x5 x6 x7 => roundsOf (E103 N) N103_0 0 B103_0 K n (fill f103_0_sh [.i x1, .i x2, .l x3, .l x4, .l x5, .l x6, .l x7])) (fun y1 y2 y3 y4 y5 y6 y7 y8 => K .normal (fill f103_0_ex1 [.b y1, .i y2, .i y3, .l y4, .l y5, .l y6, .l y7, .l y8])) x1 x2 x3 x4 x5 x6 x7 := by kernel_rfl
theorem f103_0_lp_eq {R : Type} (N : Nat) (K : X → AS → Option R) : ∀ (n : Nat) (x1 x2 : Int) (x3 x4 : List Int) (x5 x6 x7 : List Int), roundsOf (E103 N) N103_0 0 B103_0 K n (fill f103_0_sh [.i x1, .i x2, .l x3, .l x4, .l x5, .l x6, .l x7]) = f103_0_lp N (fun y1 y2 y3 y4 y5 y6 y7 y8 => K .normal (fill f103_0_ex1 [.b y1, .i y2, .i y3, .l y4, .l y5, .l y6, .l y7, .l y8])) n x1 x2 x3 x4 x5 x6 x7
 | 0, _, _, _, _, _, _, _ => rfl
 | n + 1, x1, x2, x3, x4, x5, x6, x7 => by
  rw [f103_0_st_eq, f103_0_lp, show (fun x1 x2 x3 x4 x5 x6 x7 => roundsOf (E103 N) N103_0 0 B103_0 K n (fill f103_0_sh [.i x1, .i x2, .l x3, .l x4, .l x5, .l x6, .l x7])) = f103_0_lp N (fun y1 y2 y3 y4 y5 y6 y7 y8 => K .normal (fill f103_0_ex1 [.b y1, .i y2, .i y3, .l y4, .l y5, .l y6, .l y7, .l y8])) n from by funext x1 x2 x3 x4 x5 x6 x7; exact f103_0_lp_eq N K n x1 x2 x3 x4 x5 x6 x7]
theorem f103_0_ok (N : Nat) (hlp : LoopsOk Tryz.prog (E103 N).lp B103_0) (hΓ : CtxOk Tryz.prog (E103 N).Γ) : LoopOk Tryz.prog (mkL N103_0 f103_0_sh (f103_0_F N)) 0 B103_0 := by
 refine loopOk_of (E := E103 N) thOk hΓ mixed hlp ?_
 intro R ls K r h
 unfold f103_0_F at h
 split at h
 ·
  exact ⟨N, by rw [f103_0_lp_eq]; exact h⟩
 ·
  cases h
theorem lok103_0 (N : Nat) (hΓ : CtxOk Tryz.prog GT4) : LoopOk Tryz.prog (mkL N103_0 f103_0_sh (f103_0_F N)) 0 B103_0 := f103_0_ok N (loopsOk_of (l := []) (by kernel_rfl) trivial) hΓ
theorem f103_contract (N : Nat) (hΓ : CtxOk Tryz.prog GT4) : Contract Tryz.prog 103 { sig := S103, impl := fun _ ds k => call (E103 N) S103 37 B103 R103 ds k } :=
 call_contract (E := E103 N) thOk hΓ mixed ok103.look ok103.body ok103.n ok103.rv ok103.name rfl (by decide) (loopsOk_of (l := [(0, B103_0)]) (by kernel_rfl) (allOk_cons (L := mkL N103_0 f103_0_sh (f103_0_F N)) rfl (lok103_0 N hΓ) trivial))
theorem f103_raw_eq {R : Type} (N : Nat) (p x : List Int) (k : List DV → Option R) : call (E103 N) S103 37 B103 R103 [.lst (.mix ck105) 64 p, .v (.one (.ints .u8 32 x))] k = f103_raw N p x k := by kernel_rfl
def f40_raw {R : Type} (N : Nat) (s : List Int) (t l : Int) (k : List DV → Option R) : Option R :=
 bif thrE t != 0 then k [.lst (.mix ck105) 64 [], .v (.one (.int .i64 (thrE t)))] else bif decide (nI (rowLen 33 s) < l) then k [.lst (.mix ck105) 64 [], .v (.one (.int .i64 8))] else bif okS s then bif (idsS s (s.length / 33)).length.ble 1073741824 then k [.lst (.mix ck105) 64 (ptsS s (s.length / 33)), .v (.one (.int .i64 (idsN (idsS s (s.length / 33)))))] else none else none
def E40 (N : Nat) : Env := { Θ := Th, Γ := GT4, K := K40, ν := N40, fuel := 0, lp := [] }
theorem f40_contract (N : Nat) (hΓ : CtxOk Tryz.prog GT4) : Contract Tryz.prog 40 { sig := S40, impl := fun _ ds k => call (E40 N) S40 28 B40 R40 ds k } :=
 call_contract (E := E40 N) thOk hΓ mixed ok40.look ok40.body ok40.n ok40.rv ok40.name rfl (by decide) (loopsOk_of (l := []) (by kernel_rfl) trivial)
theorem f40_raw_eq {R : Type} (N : Nat) (s : List Int) (t l : Int) (k : List DV → Option R) : call (E40 N) S40 28 B40 R40 [.lst (.mix ck78) 33 s, .v (.one (.int .i64 t)), .v (.one (.int .i64 l))] k = f40_raw N s t l k := by kernel_rfl
instance : NeZero ell := ⟨by have := ell_pos; omega⟩
abbrev Q := Fin ell
def q (n : Nat) : Q := Fin.ofNat ell n
theorem q_val (n : Nat) : (q n).val = n % ell := rfl
theorem q_eq {a b : Nat} : q a = q b ↔ a % ell = b % ell := by
 constructor
 ·
  intro h; have := congrArg Fin.val h; exact this
 ·
  intro h; exact Fin.ext h
theorem q_inj {a b : Nat} (ha : a < ell) (hb : b < ell) (h : q a = q b) : a = b := by
 have := q_eq.1 h
 rwa [Nat.mod_eq_of_lt ha, Nat.mod_eq_of_lt hb] at this
theorem q_mod (a : Nat) : q (a % ell) = q a := q_eq.2 (Nat.mod_mod _ _)
theorem q_add' (a b : Nat) : q (a + b) = q a + q b := Fin.ext (by
 show (a + b) % ell = (a % ell + b % ell) % ell
 rw [← Nat.add_mod])
theorem q_mul' (a b : Nat) : q (a * b) = q a * q b := Fin.ext (by
 show (a * b) % ell = (a % ell * (b % ell)) % ell
 rw [← Nat.mul_mod])
theorem q_zero : q 0 = 0 := rfl
theorem q_one : q 1 = 1 := rfl
theorem q_add (a b : Nat) : q (addN a b) = q a + q b := by rw [addN_def, q_mod, q_add']
theorem q_mul (a b : Nat) : q (mulN a b) = q a * q b := by rw [mulN_def, q_mod, q_mul']
theorem q_neg {a : Nat} (h : a < ell) : q (negN a) = -q a := by
 have e : q (negN a) + q a = 0 := by rw [← q_add, addN_comm, addN_negN h, q_zero]
 grind
theorem q_dif (a : Nat) {b : Nat} (h : b < ell) : q (difN a b) = q a - q b := by
 unfold difN; rw [q_add, q_neg h]; grind
def qi (a : Q) : Q := q (invN a.val)
theorem q_self (a : Q) : q a.val = a := Fin.ext (Nat.mod_eq_of_lt a.isLt)
theorem q_inv {a : Nat} (h : a < ell) : q (invN a) = qi (q a) := by unfold qi; rw [q_val, Nat.mod_eq_of_lt h]
theorem qi_mul {a : Q} (h : a ≠ 0) : a * qi a = 1 := by
 unfold qi
 have h0 : a.val ≠ 0 := fun e => h (by rw [← q_self a, e, q_zero])
 rw [← q_self a, q_val, Nat.mod_eq_of_lt a.isLt, ← q_mul, mulN_inv a.isLt h0, q_one]
theorem no_zero {a b : Q} (h : a * b = 0) : a = 0 ∨ b = 0 := by
 by_cases ha : a = 0
 ·
  exact .inl ha
 ·
  right
  have h1 := qi_mul ha
  grind
theorem sub_ne {a b : Q} (h : a ≠ b) : a - b ≠ 0 := fun e => h (by grind)
theorem q_ne {a b : Nat} (ha : a < ell) (hb : b < ell) (h : a ≠ b) : q a ≠ q b := fun e => h (q_inj ha hb e)
def ev : Nat → (Nat → Q) → Q → Q
 | 0, _, _ => 0
 | n + 1, c, x => c 0 + x * ev n (fun i => c (i + 1)) x
def pw (x : Q) : Nat → Q
 | 0 => 1
 | n + 1 => x * pw x n
theorem ev_congr : ∀ {n : Nat} {c d : Nat → Q} {x : Q}, (∀ i, i < n → c i = d i) → ev n c x = ev n d x
 | 0, _, _, _, _ => rfl
 | n + 1, c, d, x, h => by
  unfold ev
  rw [h 0 (by omega), ev_congr (n := n) (c := fun i => c (i + 1)) (d := fun i => d (i + 1)) fun i hi => h (i + 1) (by omega)]
theorem ev_sub : ∀ (n : Nat) (c d : Nat → Q) (x : Q), ev n (fun i => c i - d i) x = ev n c x - ev n d x
 | 0, _, _, _ => by unfold ev; grind
 | n + 1, c, d, x => by
  unfold ev
  rw [ev_sub n (fun i => c (i + 1)) (fun i => d (i + 1)) x]; grind
theorem ev_smul : ∀ (n : Nat) (a : Q) (c : Nat → Q) (x : Q), ev n (fun i => a * c i) x = a * ev n c x
 | 0, _, _, _ => by unfold ev; grind
 | n + 1, a, c, x => by
  unfold ev
  rw [ev_smul n a (fun i => c (i + 1)) x]; grind
theorem ev_zero (n : Nat) (x : Q) : ev n (fun _ => 0) x = 0 := by
 induction n with
 | zero => rfl
 | succ n ih => unfold ev; rw [ih]; grind
theorem ev_snoc : ∀ (n : Nat) (c : Nat → Q) (x : Q), ev (n + 1) c x = ev n c x + c n * pw x n
 | 0, c, x => by unfold ev ev pw; grind
 | n + 1, c, x => by
  have ih := ev_snoc n (fun i => c (i + 1)) x
  have e1 : ev (n + 2) c x = c 0 + x * ev (n + 1) (fun i => c (i + 1)) x := rfl
  have e2 : ev (n + 1) c x = c 0 + x * ev n (fun i => c (i + 1)) x := rfl
  have e3 : pw x (n + 1) = x * pw x n := rfl
  rw [e1, e2, e3, ih]; grind
def quo : Nat → (Nat → Q) → Q → Nat → Q
 | 0, _, _, _ => 0
 | n + 1, c, s, 0 => ev (n + 1) (fun i => c (i + 1)) s
 | n + 1, c, s, i + 1 => quo n (fun i => c (i + 1)) s i
theorem quo_ev : ∀ (n : Nat) (c : Nat → Q) (s x : Q), ev (n + 1) c x = ev (n + 1) c s + (x - s) * ev n (quo n c s) x
 | 0, c, s, x => by
  have e1 : ∀ y : Q, ev 1 c y = c 0 + y * 0 := fun y => rfl
  have e2 : ev 0 (quo 0 c s) x = 0 := rfl
  rw [e1, e1, e2]; grind
 | n + 1, c, s, x => by
  have ih := quo_ev n (fun i => c (i + 1)) s x
  have e1 : ∀ y, ev (n + 2) c y = c 0 + y * ev (n + 1) (fun i => c (i + 1)) y := fun _ => rfl
  have e2 : ev (n + 1) (quo (n + 1) c s) x = ev (n + 1) (fun i => c (i + 1)) s + x * ev n (quo n (fun i => c (i + 1)) s) x := rfl
  rw [e1 x, e1 s, e2, ih]; grind
theorem quo_top : ∀ (n : Nat) (c : Nat → Q) (s : Q) (i : Nat), n ≤ i → quo n c s i = 0
 | 0, _, _, _, _ => rfl
 | n + 1, c, s, i + 1, h => quo_top n _ s i (by omega)
theorem quo_rec : ∀ (n : Nat) (c : Nat → Q) (s : Q) (j : Nat), j < n → quo n c s j = c (j + 1) + s * quo n c s (j + 1)
 | n + 1, c, s, 0, _ => by
  have e1 : quo (n + 1) c s 0 = c 1 + s * ev n (fun i => c (i + 1 + 1)) s := rfl
  have e2 : quo (n + 1) c s 1 = quo n (fun i => c (i + 1)) s 0 := rfl
  rw [e1, e2]
  cases n with
  | zero => rfl
  | succ n => rfl
 | n + 1, c, s, j + 1, h => quo_rec n (fun i => c (i + 1)) s j (by omega)
theorem roots : ∀ (n : Nat) (c r : Nat → Q), (∀ i, i < n → ev n c (r i) = 0) → (∀ i j, i < j → j < n → r i ≠ r j) → ∀ i, i < n → c i = 0
 | 0, _, _, _, _, i, h => by omega
 | n + 1, c, r, h, hd, i, hi => by
  have hs := h n (by omega)
  have hq : ∀ j, j < n → quo n c (r n) j = 0 := roots n (quo n c (r n)) r (fun j hj => by
   have h1 := quo_ev n c (r n) (r j)
   rw [h j (by omega), hs] at h1
   have h2 : (r j - r n) * ev n (quo n c (r n)) (r j) = 0 := by grind
   rcases no_zero h2 with h3 | h3
   ·
    exact absurd h3 (sub_ne (hd j n hj (by omega)))
   ·
    exact h3) (fun a b h1 h2 => hd a b h1 (by omega))
  have hc : ∀ j, j < n → c (j + 1) = 0 := fun j hj => by
   have h1 := quo_rec n c (r n) j hj
   have h2 : quo n c (r n) (j + 1) = 0 := by
    by_cases e : j + 1 < n
    ·
     exact hq _ e
    ·
     exact quo_top n c _ _ (by omega)
   rw [hq j hj, h2] at h1; grind
  cases i with
  | succ i => exact hc i (by omega)
  | zero =>
   have e1 : ev (n + 1) c (r n) = c 0 + r n * ev n (fun i => c (i + 1)) (r n) := rfl
   rw [hs, ev_congr (d := fun _ => 0) (fun j hj => hc j hj), ev_zero] at e1
   grind
theorem unique {n : Nat} {c d r : Nat → Q} (h : ∀ i, i < n → ev n c (r i) = ev n d (r i)) (hd : ∀ i j, i < j → j < n → r i ≠ r j) : ∀ i, i < n → c i = d i := fun i hi => by
 have := roots n (fun i => c i - d i) r (fun j hj => by rw [ev_sub, h j hj]; grind) hd i hi
 grind
theorem ev_upd (g : Nat → Nat) (i v : Nat) (x : Q) : ∀ (n : Nat), i < n → ev n (fun j => q (upd g i v j)) x = ev n (fun j => q (g j)) x + (q v - q (g i)) * pw x i
 | n + 1, h => by
  rw [ev_snoc, ev_snoc]
  by_cases e : i = n
  ·
   subst e
   rw [show upd g i v i = v by simp [upd], ev_congr (d := fun j => q (g j)) fun j hj => by simp [upd, show j ≠ i by omega]]
   grind
  ·
   rw [ev_upd g i v x n (by omega), show upd g i v n = g n by simp [upd, show n ≠ i from fun q => e q.symm]]
   grind
section
variable (X y : Nat → Q)
def nev : Nat → Nat → Q → Q
 | a, 0, _ => y a
 | a, m + 1, x => ((x - X a) * nev (a + 1) m x - (x - X (a + m + 1)) * nev a m x) * qi (X (a + m + 1) - X a)
def dd : Nat → Nat → Q
 | 0, j => y j
 | k + 1, j => (dd k j - dd k (j - 1)) * qi (X j - X (j - (k + 1)))
def pr (a : Nat) : Nat → Q → Q
 | 0, _ => 1
 | m + 1, x => pr a m x * (x - X (a + m))
theorem pr_front (a : Nat) (x : Q) : ∀ m, pr X a (m + 1) x = (x - X a) * pr X (a + 1) m x
 | 0 => by
  have e1 : pr X a 1 x = 1 * (x - X (a + 0)) := rfl
  have e2 : pr X (a + 1) 0 x = 1 := rfl
  rw [e1, e2, Nat.add_zero]; grind
 | m + 1 => by
  have ih := pr_front a x m
  have e1 : pr X a (m + 2) x = pr X a (m + 1) x * (x - X (a + (m + 1))) := rfl
  have e2 : pr X (a + 1) (m + 1) x = pr X (a + 1) m x * (x - X (a + 1 + m)) := rfl
  rw [e1, e2, ih, show a + (m + 1) = a + 1 + m by omega]; grind
theorem nev_both : ∀ (m a : Nat) (x : Q), (∀ i j, a ≤ i → i < j → j ≤ a + m + 1 → X i ≠ X j) →
  nev X y a (m + 1) x = nev X y a m x + dd X y (m + 1) (a + m + 1) * pr X a (m + 1) x ∧
  nev X y a (m + 1) x = nev X y (a + 1) m x + dd X y (m + 1) (a + m + 1) * pr X (a + 1) (m + 1) x
 | 0, a, x, h => by
  have hd := qi_mul (sub_ne (h a (a + 1) (by omega) (by omega) (by omega)).symm)
  have e1 : nev X y a 1 x = ((x - X a) * y (a + 1) - (x - X (a + 1)) * y a) * qi (X (a + 1) - X a) := rfl
  have e2 : dd X y 1 (a + 0 + 1) = (y (a + 1) - y a) * qi (X (a + 1) - X a) := by
   show (y (a + 0 + 1) - y (a + 0 + 1 - 1)) * qi (X (a + 0 + 1) - X (a + 0 + 1 - (0 + 1))) = _
   rfl
  have e3 : pr X a 1 x = 1 * (x - X (a + 0)) := rfl
  have e4 : pr X (a + 1) 1 x = 1 * (x - X (a + 1 + 0)) := rfl
  have e5 : nev X y a 0 x = y a := rfl
  have e6 : nev X y (a + 1) 0 x = y (a + 1) := rfl
  rw [Nat.add_zero] at e3 e4
  rw [show (0 : Nat) + 1 = 1 from rfl, e1, e2, e3, e4, e5, e6]
  constructor <;> grind
 | m + 1, a, x, h => by
  obtain ⟨a1, a2⟩ := nev_both m a x fun i j h1 h2 h3 => h i j h1 h2 (by omega)
  obtain ⟨b1, b2⟩ := nev_both m (a + 1) x fun i j h1 h2 h3 => h i j (by omega) h2 (by omega)
  have hd := qi_mul (sub_ne (h a (a + m + 2) (by omega) (by omega) (by omega)).symm)
  have e1 : nev X y a (m + 2) x = ((x - X a) * nev X y (a + 1) (m + 1) x - (x - X (a + m + 2)) * nev X y a (m + 1) x) * qi (X (a + m + 2) - X a) := rfl
  have e2 : dd X y (m + 2) (a + (m + 1) + 1) = (dd X y (m + 1) (a + m + 2) - dd X y (m + 1) (a + m + 1)) * qi (X (a + m + 2) - X a) := by
   show (dd X y (m + 1) (a + (m + 1) + 1) - dd X y (m + 1) (a + (m + 1) + 1 - 1)) * qi (X (a + (m + 1) + 1) - X (a + (m + 1) + 1 - (m + 1 + 1))) = _
   rw [show a + (m + 1) + 1 - 1 = a + m + 1 by omega, show a + (m + 1) + 1 - (m + 1 + 1) = a by omega, show a + (m + 1) + 1 = a + m + 2 by omega]
  rw [show a + 1 + m + 1 = a + m + 2 by omega] at b1 b2
  have e3 : pr X a (m + 2) x = (x - X a) * pr X (a + 1) (m + 1) x := pr_front X a x (m + 1)
  have e4 : pr X (a + 1) (m + 2) x = pr X (a + 1) (m + 1) x * (x - X (a + m + 2)) := by
   show pr X (a + 1) (m + 1) x * (x - X (a + 1 + (m + 1))) = _
   rw [show a + 1 + (m + 1) = a + m + 2 by omega]
  rw [show m + 1 + 1 = m + 2 from rfl, e2, e3, e4]
  generalize nev X y (a + 1) m x = C at *
  generalize pr X (a + 1) (m + 1) x = M at *
  generalize dd X y (m + 1) (a + m + 2) = d2 at *
  generalize dd X y (m + 1) (a + m + 1) = d1 at *
  rw [b1, a2] at e1
  rw [b1, a2, e1]
  generalize qi (X (a + m + 2) - X a) = I at *
  generalize X (a + m + 2) = u at *
  generalize X a = v at *
  constructor <;> grind
theorem nev_at : ∀ (m a i : Nat), a ≤ i → i ≤ a + m → (∀ i j, a ≤ i → i < j → j ≤ a + m → X i ≠ X j) → nev X y a m (X i) = y i
 | 0, a, i, h1, h2, _ => by rw [show i = a by omega]; rfl
 | m + 1, a, i, h1, h2, h => by
  have hd := qi_mul (sub_ne (h a (a + m + 1) (by omega) (by omega) (by omega)).symm)
  have e1 : nev X y a (m + 1) (X i) = ((X i - X a) * nev X y (a + 1) m (X i) - (X i - X (a + m + 1)) * nev X y a m (X i)) * qi (X (a + m + 1) - X a) := rfl
  rw [e1]
  by_cases c1 : i = a
  ·
   rw [c1, nev_at m a a (by omega) (by omega) fun i j h1 h2 h3 => h i j h1 h2 (by omega)]; grind
  ·
   by_cases c2 : i = a + m + 1
   ·
    rw [c2, nev_at m (a + 1) (a + m + 1) (by omega) (by omega) fun i j h1 h2 h3 => h i j (by omega) h2 (by omega)]; grind
   ·
    rw [nev_at m a i (by omega) (by omega) fun i j h1 h2 h3 => h i j h1 h2 (by omega), nev_at m (a + 1) i (by omega) (by omega) fun i j h1 h2 h3 => h i j (by omega) h2 (by omega)]; grind
def nest (D : Nat → Q) : Nat → Nat → Q → Q
 | _, 0, _ => 0
 | k, m + 1, x => D k + (x - X k) * nest D (k + 1) m x
theorem nest_last (D : Nat → Q) (x : Q) : ∀ (m k : Nat), nest X D k (m + 1) x = nest X D k m x + D (k + m) * pr X k m x
 | 0, k => by
  have e1 : nest X D k 1 x = D k + (x - X k) * 0 := rfl
  have e2 : nest X D k 0 x = 0 := rfl
  have e3 : pr X k 0 x = 1 := rfl
  rw [e1, e2, e3, Nat.add_zero]; grind
 | m + 1, k => by
  have ih := nest_last D x m (k + 1)
  have e1 : nest X D k (m + 2) x = D k + (x - X k) * nest X D (k + 1) (m + 1) x := rfl
  have e2 : nest X D k (m + 1) x = D k + (x - X k) * nest X D (k + 1) m x := rfl
  rw [e1, e2, ih, pr_front, show k + 1 + m = k + (m + 1) by omega]; grind
theorem nest_nev (x : Q) : ∀ m, (∀ i j, i < j → j ≤ m → X i ≠ X j) → nest X (fun k => dd X y k k) 0 (m + 1) x = nev X y 0 m x
 | 0, _ => by
  have e1 : nest X (fun k => dd X y k k) 0 1 x = y 0 + (x - X 0) * 0 := rfl
  have e2 : nev X y 0 0 x = y 0 := rfl
  rw [e1, e2]; grind
 | m + 1, h => by
  rw [nest_last, nest_nev x m fun i j h1 h2 => h i j h1 (by omega), (nev_both X y m 0 x fun i j _ h2 h3 => h i j h2 (by omega)).1]
  simp only [Nat.zero_add]
end
theorem down_get {φ : Nat → (Nat → Nat) → Nat} (hφ : ∀ i g g', (∀ j, j ≤ i → g j = g' j) → φ i g = φ i g') (k : Nat) : ∀ (m : Nat) (g : Nat → Nat) (j : Nat),
  downF (fun i g => upd g i (φ i g)) k m g j = if k ≤ j ∧ j < k + m then φ j g else g j
 | 0, g, j => by rw [if_neg (by omega)]; rfl
 | m + 1, g, j => by
  show downF (fun i g => upd g i (φ i g)) k m (upd g (k + m) (φ (k + m) g)) j = _
  rw [down_get hφ k m]
  by_cases h1 : k ≤ j ∧ j < k + m
  ·
   rw [if_pos h1, if_pos (by omega)]
   exact hφ j _ _ fun i hi => by simp [upd, show i ≠ k + m by omega]
  ·
   rw [if_neg h1]
   by_cases h2 : j = k + m
   ·
    subst h2; rw [if_pos (by omega)]; simp [upd]
   ·
    rw [if_neg (by omega)]; simp [upd, h2]
theorem ysG_get (Y : Nat → Nat) (n : Nat) : ∀ (m i : Nat) (g : Nat → Nat) (j : Nat), iterF (fun i g => upd g i (Y i)) m i g j = if i ≤ j ∧ j < i + m then Y j else g j
 | 0, i, g, j => by rw [if_neg (by omega)]; rfl
 | m + 1, i, g, j => by
  show iterF (fun i g => upd g i (Y i)) m (i + 1) (upd g i (Y i)) j = _
  rw [ysG_get Y n m]
  by_cases h1 : j = i
  ·
   subst h1; rw [if_neg (by omega), if_pos (by omega)]; simp [upd]
  ·
   by_cases h2 : i + 1 ≤ j ∧ j < i + 1 + m
   ·
    rw [if_pos h2, if_pos (by omega)]
   ·
    rw [if_neg h2, if_neg (by omega)]; simp [upd, h1]
theorem pass_get (X : Nat → Nat) (n k : Nat) (g : Nat → Nat) (j : Nat) (hk : k ≤ n) : ddPass X n k g j = if k ≤ j ∧ j < n then mulN (difN (g j) (g (j - 1))) (invN (difN (X j) (X (j - k)))) else g j := by
 have := down_get (φ := fun i g => mulN (difN (g i) (g (i - 1))) (invN (difN (X i) (X (i - k))))) (fun i g g' h => by
  rw [h i (Nat.le_refl _), h (i - 1) (by omega)]) k (n - k) g j
 rw [show k + (n - k) = n by omega] at this
 exact this
theorem dd_table {X Y : Nat → Nat} (hX : LtE X) (hY : LtE Y) {n : Nat} : ∀ (k : Nat), k + 1 ≤ n → ∀ j, j < n →
  q (iterF (ddPass X n) k 1 (ysG Y n) j) = dd (fun i => q (X i)) (fun i => q (Y i)) (if j ≤ k then j else k) j
 | 0, h, j, hj => by
  have e : iterF (ddPass X n) 0 1 (ysG Y n) j = Y j := by
   show ysG Y n j = Y j
   unfold ysG
   rw [ysG_get Y n, if_pos (by omega)]
  rw [e]
  by_cases h0 : j ≤ 0
  ·
   rw [if_pos h0, show j = 0 by omega]; rfl
  ·
   rw [if_neg h0]; rfl
 | k + 1, h, j, hj => by
  rw [iterF_last, pass_get X n (1 + k) _ j (by omega)]
  have lt : LtE (iterF (ddPass X n) k 1 (ysG Y n)) := iterF_inv (fun i g hg => ddPass_lt hg) _ _ _ (ysG_lt hY n)
  have ih := dd_table hX hY (n := n) k (by omega)
  by_cases h1 : 1 + k ≤ j ∧ j < n
  ·
   rw [if_pos h1, q_mul, q_inv (difN_lt _ _), q_dif _ (lt _), q_dif _ (hX _), ih j hj, ih (j - 1) (by omega), if_neg (by omega : ¬ j ≤ k)]
   have e2 : (if j - 1 ≤ k then j - 1 else k) = k := by
    by_cases e : j - 1 ≤ k
    ·
     rw [if_pos e]; omega
    ·
     rw [if_neg e]
   have e3 : (if j ≤ k + 1 then j else k + 1) = k + 1 := by
    by_cases e : j ≤ k + 1
    ·
     rw [if_pos e]; omega
    ·
     rw [if_neg e]
   rw [e2, e3, show 1 + k = k + 1 by omega]
   rfl
  ·
   rw [if_neg h1, ih j hj, if_pos (by omega : j ≤ k), if_pos (by omega : j ≤ k + 1)]
theorem ddG_q {X Y : Nat → Nat} (hX : LtE X) (hY : LtE Y) {n : Nat} (hn : 1 ≤ n) {j : Nat} (hj : j < n) : q (ddG X Y n j) = dd (fun i => q (X i)) (fun i => q (Y i)) j j := by
 unfold ddG
 rw [dd_table hX hY (n - 1) (by omega) j hj, if_pos (by omega)]
theorem up_get (X : Nat → Nat) (k m : Nat) (g : Nat → Nat) (j : Nat) : downF (upSt X k) 1 m g j = if 1 ≤ j ∧ j < 1 + m then difN (g (j - 1)) (mulN (g j) (X k)) else g j :=
 down_get (φ := fun i g => difN (g (i - 1)) (mulN (g i) (X k))) (fun i g g' h => by
  rw [h i (Nat.le_refl _), h (i - 1) (by omega)]) 1 m g j
theorem out_ev {X D : Nat → Nat} (hX : LtE X) (hD : LtE D) {n k : Nat} {g : Nat → Nat} (hg : LtE g) (hn : 1 ≤ n) (htop : g (n - 1) = 0) (x : Q) :
  ev n (fun j => q (outSt X D n k g j)) x = q (D k) + (x - q (X k)) * ev n (fun j => q (g j)) x := by
 obtain ⟨m, rfl⟩ : ∃ m, n = m + 1 := ⟨n - 1, by omega⟩
 have hm : m + 1 - 1 = m := by omega
 rw [hm] at htop
 have e0 : outSt X D (m + 1) k g 0 = difN (D k) (mulN (g 0) (X k)) := by
  unfold outSt
  rw [hm, up_get, if_neg (by omega)]; simp [upd]
 have e1 : ∀ j, j < m → outSt X D (m + 1) k g (j + 1) = difN (g j) (mulN (g (j + 1)) (X k)) := fun j hj => by
  unfold outSt
  rw [hm]
  simp only [upd, Nat.succ_ne_zero, if_false]
  rw [up_get, if_pos (by omega)]
  simp
 have l1 : ev (m + 1) (fun j => q (outSt X D (m + 1) k g j)) x = q (outSt X D (m + 1) k g 0) + x * ev m (fun j => q (outSt X D (m + 1) k g (j + 1))) x := rfl
 have l2 : ev (m + 1) (fun j => q (g j)) x = q (g 0) + x * ev m (fun j => q (g (j + 1))) x := rfl
 have l3 : ev (m + 1) (fun j => q (g j)) x = ev m (fun j => q (g j)) x := by
  rw [ev_snoc]; simp only [htop, q_zero]; grind
 have l4 : ev m (fun j => q (outSt X D (m + 1) k g (j + 1))) x = ev m (fun j => q (g j)) x - q (X k) * ev m (fun j => q (g (j + 1))) x := by
  rw [← ev_smul, ← ev_sub]
  exact ev_congr fun j hj => by
   rw [e1 j hj, q_dif _ (mulN_lt _ _), q_mul]; grind
 rw [l1, e0, l4, q_dif _ (mulN_lt _ _), q_mul]
 rw [l3] at l2
 rw [l3]; grind
theorem outs_ev {X D : Nat → Nat} (hX : LtE X) (hD : LtE D) {n : Nat} (hn : 1 ≤ n) (x : Q) : ∀ (m k : Nat), k + m = n → ∃ g, LtE g ∧ (∀ j, n - k ≤ j → g j = 0) ∧
  ev n (fun j => q (g j)) x = nest (fun i => q (X i)) (fun i => q (D i)) k m x ∧ downF (outSt X D n) 0 n (fun _ => 0) = downF (outSt X D n) 0 k g
 | 0, k, h => ⟨fun _ => 0, ltE_zero, fun _ _ => rfl, by rw [show (fun (j : Nat) => q 0) = fun _ => (0 : Q) from rfl, ev_zero]; rfl, by rw [show k = n by omega]⟩
 | m + 1, k, h => by
  obtain ⟨g, g1, g2, g3, g4⟩ := outs_ev hX hD hn x m (k + 1) (by omega)
  refine ⟨outSt X D n k g, outSt_lt g1, ?_, ?_, ?_⟩
  ·
   intro j hj
   unfold outSt
   have hj0 : j ≠ 0 := by omega
   simp only [upd, hj0, if_false]
   rw [up_get]
   by_cases hlt : 1 ≤ j ∧ j < 1 + (n - 1)
   ·
    rw [if_pos hlt, g2 j (by omega), g2 (j - 1) (by omega), zero_mulN]
    unfold difN
    rw [negN_def, Nat.sub_zero, Nat.mod_self, addN_zero ell_pos]
   ·
    rw [if_neg hlt]; exact g2 j (by omega)
  ·
   rw [out_ev hX hD g1 hn (g2 _ (by omega)), g3]
   rfl
  ·
   rw [g4]
   show downF (outSt X D n) 0 k (outSt X D n (0 + k) g) = _
   rw [Nat.zero_add]
theorem newt_ev {X Y : Nat → Nat} (hX : LtE X) (hY : LtE Y) {n : Nat} (hn : 1 ≤ n) (hd : ∀ i j, i < j → j < n → X i ≠ X j) (x : Q) :
  ev n (fun j => q (newtG X Y n j)) x = nev (fun i => q (X i)) (fun i => q (Y i)) 0 (n - 1) x := by
 obtain ⟨g, g1, g2, g3, g4⟩ := outs_ev hX (ddG_lt (X := X) hY n) hn x n 0 (by omega)
 have e : newtG X Y n = g := g4
 rw [e, g3]
 obtain ⟨m, rfl⟩ : ∃ m, n = m + 1 := ⟨n - 1, by omega⟩
 have hq : ∀ i j, i < j → j ≤ m → q (X i) ≠ q (X j) := fun i j h1 h2 => q_ne (hX i) (hX j) (hd i j h1 (by omega))
 rw [show m + 1 - 1 = m by omega, ← nest_nev _ _ x m hq]
 have hc : ∀ (m' k : Nat), k + m' ≤ m + 1 → nest (fun i => q (X i)) (fun i => q (ddG X Y (m + 1) i)) k m' x = nest (fun i => q (X i)) (fun k => dd (fun i => q (X i)) (fun i => q (Y i)) k k) k m' x := by
  intro m'
  induction m' with
  | zero => intro k _; rfl
  | succ m' ih =>
   intro k hk
   show q (ddG X Y (m + 1) k) + (x - q (X k)) * nest _ _ (k + 1) m' x = dd _ _ k k + (x - q (X k)) * nest _ _ (k + 1) m' x
   rw [ih (k + 1) (by omega), ddG_q hX hY (by omega) (show k < m + 1 by omega)]
 exact hc (m + 1) 0 (by omega)
theorem newt_at {X Y : Nat → Nat} (hX : LtE X) (hY : LtE Y) {n : Nat} (hn : 1 ≤ n) (hd : ∀ i j, i < j → j < n → X i ≠ X j) {i : Nat} (hi : i < n) :
  ev n (fun j => q (newtG X Y n j)) (q (X i)) = q (Y i) := by
 rw [newt_ev hX hY hn hd]
 exact nev_at (fun i => q (X i)) (fun i => q (Y i)) (n - 1) 0 i (by omega) (by omega) fun a b _ h2 h3 => q_ne (hX a) (hX b) (hd a b h2 (by omega))
theorem times_ev {p : Nat → Nat} {a : Nat} (hp : LtE p) (m : Nat) (x : Q) : ∀ (j : Nat), j ≤ m → LtE (iterF (timesSt p a) j 0 (fun _ => 0)) ∧ (∀ i, j < i → iterF (timesSt p a) j 0 (fun _ => 0) i = 0) ∧
  ev (m + 1) (fun i => q (iterF (timesSt p a) j 0 (fun _ => 0) i)) x = (x - q a) * ev j (fun i => q (p i)) x
 | 0, _ => ⟨ltE_zero, fun _ _ => rfl, by rw [show (fun i => q (iterF (timesSt p a) 0 0 (fun _ => 0) i)) = fun _ => (0 : Q) from rfl, ev_zero]; show 0 = (x - q a) * 0; grind⟩
 | j + 1, h => by
  obtain ⟨h1, h2, h3⟩ := times_ev (a := a) hp m x j (by omega)
  have e0 : iterF (timesSt p a) (j + 1) 0 (fun _ => 0) = timesSt p a j (iterF (timesSt p a) j 0 (fun _ => 0)) := by rw [iterF_last, Nat.zero_add]
  rw [e0]
  generalize iterF (timesSt p a) j 0 (fun _ => 0) = g at *
  refine ⟨timesSt_lt h1, ?_, ?_⟩
  ·
   intro i hi
   unfold timesSt
   simp only [upd, show i ≠ j by omega, show i ≠ j + 1 by omega, if_false]
   exact h2 i (by omega)
  ·
   unfold timesSt
   have g1lt : LtE (upd g (j + 1) (addN (g (j + 1)) (p j))) := h1.upd (addN_lt _ _) _
   rw [ev_upd _ j _ x (m + 1) (by omega), ev_upd _ (j + 1) _ x (m + 1) (by omega), h3, ev_snoc, q_dif _ (mulN_lt _ _), q_mul, q_add]
   have e1 : pw x (j + 1) = x * pw x j := rfl
   rw [e1]; grind
theorem timesG_ev {p : Nat → Nat} {a m : Nat} (hp : LtE p) (x : Q) : ev (m + 1) (fun i => q (timesG p a m i)) x = (x - q a) * ev m (fun i => q (p i)) x :=
 (times_ev hp m x m (Nat.le_refl _)).2.2
def prx (X : Nat → Q) (i : Nat) (x : Q) : Nat → Nat → Q
 | 0, _ => 1
 | j + 1, k => (if k = i then 1 else x - X k) * prx X i x j (k + 1)
theorem bas_ev {X : Nat → Nat} (hX : LtE X) (i : Nat) (x : Q) : ∀ (j k : Nat) (s : PB), PBOk s →
  ev (iterF (coefIn X i) j k s).m (fun t => q ((iterF (coefIn X i) j k s).p t)) x = ev s.m (fun t => q (s.p t)) x * prx (fun i => q (X i)) i x j k ∧
  q (iterF (coefIn X i) j k s).b = q s.b * prx (fun i => q (X i)) i (q (X i)) j k
 | 0, k, s, _ => by
  have e : ∀ y, prx (fun i => q (X i)) i y 0 k = 1 := fun _ => rfl
  rw [e, e]
  have e2 : iterF (coefIn X i) 0 k s = s := rfl
  rw [e2]; constructor <;> grind
 | j + 1, k, s, hs => by
  obtain ⟨h1, h2⟩ := bas_ev hX i x j (k + 1) (coefIn X i k s) (coefIn_ok hs)
  have e : ∀ y, prx (fun i => q (X i)) i y (j + 1) k = (if k = i then 1 else y - q (X k)) * prx (fun i => q (X i)) i y j (k + 1) := fun _ => rfl
  have e2 : iterF (coefIn X i) (j + 1) k s = iterF (coefIn X i) j (k + 1) (coefIn X i k s) := rfl
  rw [e2, h1, h2, e, e]
  by_cases hk : k = i
  ·
   have e3 : coefIn X i k s = s := by unfold coefIn; rw [if_pos hk]
   rw [e3, if_pos hk, if_pos hk]; constructor <;> grind
  ·
   have e3 : coefIn X i k s = ⟨timesG s.p (X k) s.m, s.m + 1, mulN s.b (difN (X i) (X k))⟩ := by unfold coefIn; rw [if_neg hk]
   rw [e3, if_neg hk, if_neg hk]
   show ev (s.m + 1) (fun t => q (timesG s.p (X k) s.m t)) x * _ = _ ∧ q (mulN s.b (difN (X i) (X k))) * _ = _
   rw [timesG_ev hs.p, q_mul, q_dif _ (hX k)]; constructor <;> grind
theorem onePB_ev (x : Q) : ev onePB.m (fun t => q (onePB.p t)) x = 1 := by
 show ev 1 (fun t => q (if t = 0 then 1 else 0)) x = 1
 have e : ev 1 (fun t => q (if t = 0 then 1 else 0)) x = q 1 + x * 0 := rfl
 rw [e, q_one]; grind
theorem prx_zero {X : Nat → Q} {i l : Nat} (hl : l ≠ i) : ∀ (j k : Nat), k ≤ l → l < k + j → prx X i (X l) j k = 0
 | 0, k, h1, h2 => by omega
 | j + 1, k, h1, h2 => by
  have e : prx X i (X l) (j + 1) k = (if k = i then 1 else X l - X k) * prx X i (X l) j (k + 1) := rfl
  rw [e]
  by_cases hk : k = l
  ·
   rw [if_neg (by omega), hk]; grind
  ·
   rw [prx_zero hl j (k + 1) (by omega) (by omega)]; grind
theorem prx_ne {X : Nat → Q} {i : Nat} : ∀ (j k : Nat), (∀ l, k ≤ l → l < k + j → l ≠ i → X i ≠ X l) → prx X i (X i) j k ≠ 0
 | 0, k, _ => by
  show (1 : Q) ≠ 0
  intro h
  have := q_inj one_lt_ell ell_pos (by rw [q_one, q_zero]; exact h)
  omega
 | j + 1, k, h => by
  have e : prx X i (X i) (j + 1) k = (if k = i then 1 else X i - X k) * prx X i (X i) j (k + 1) := rfl
  have ih := prx_ne j (k + 1) fun l h1 h2 h3 => h l (by omega) (by omega) h3
  rw [e]
  intro h0
  rcases no_zero h0 with h1 | h1
  ·
   by_cases hk : k = i
   ·
    rw [if_pos hk] at h1
    have := q_inj one_lt_ell ell_pos (by rw [q_one, q_zero]; exact h1)
    omega
   ·
    rw [if_neg hk] at h1
    exact sub_ne (h k (by omega) (by omega) hk) h1
  ·
   exact ih h1
theorem add_ev {f0 : Nat} {p : Nat → Nat} (hp : LtE p) (n : Nat) (x : Q) : ∀ (j k : Nat) (g : Nat → Nat), k + j ≤ n → LtE g →
  ev n (fun i => q (iterF (addSt f0 p) j k g i)) x = ev n (fun i => q (g i)) x + q f0 * (ev (k + j) (fun i => q (p i)) x - ev k (fun i => q (p i)) x)
 | 0, k, g, _, _ => by
  show ev n (fun i => q (g i)) x = _
  rw [Nat.add_zero]; grind
 | j + 1, k, g, h, hg => by
  have e : iterF (addSt f0 p) (j + 1) k g = iterF (addSt f0 p) j (k + 1) (addSt f0 p k g) := rfl
  rw [e, add_ev hp n x j (k + 1) (addSt f0 p k g) (by omega) (hg.upd (addN_lt _ _) _)]
  unfold addSt
  rw [ev_upd g k _ x n (by omega), q_add, q_mul, ev_snoc k (fun i => q (p i)) x, show k + 1 + j = k + (j + 1) by omega]; grind
theorem coefSt_ev {X Y : Nat → Nat} (hX : LtE X) (hY : LtE Y) {n i : Nat} (hi : i < n) {g : Nat → Nat} (hg : LtE g) (x : Q) :
  ev n (fun j => q (coefSt X Y n i g j)) x = ev n (fun j => q (g j)) x + q (Y i) * qi (prx (fun i => q (X i)) i (q (X i)) n 0) * prx (fun i => q (X i)) i x n 0 := by
 unfold coefSt
 have hok := basPB_ok X i n
 obtain ⟨b1, b2⟩ := bas_ev hX i x n 0 onePB onePB_ok
 have hm := basPB_m X hi
 rw [add_ev hok.p n x n 0 g (by omega) hg, q_mul, q_inv hok.b, Nat.zero_add]
 have e1 : ev n (fun i_1 => q ((basPB X i n).p i_1)) x = prx (fun i => q (X i)) i x n 0 := by
  have := b1
  rw [onePB_ev] at this
  rw [show iterF (coefIn X i) n 0 onePB = basPB X i n from rfl, hm] at this
  rw [this]; grind
 have e2 : q (basPB X i n).b = prx (fun i => q (X i)) i (q (X i)) n 0 := by
  rw [show iterF (coefIn X i) n 0 onePB = basPB X i n from rfl] at b2
  rw [b2, show onePB.b = 1 from rfl, q_one]; grind
 have e3 : ev 0 (fun i_1 => q ((basPB X i n).p i_1)) x = 0 := rfl
 rw [e1, e2, e3]; grind
theorem coef_at {X Y : Nat → Nat} (hX : LtE X) (hY : LtE Y) {n l : Nat} (hl : l < n) (hd : ∀ i j, i < j → j < n → X i ≠ X j) : ∀ (j i : Nat) (g : Nat → Nat), i + j = n → LtE g →
  ev n (fun t => q (iterF (coefSt X Y n) j i g t)) (q (X l)) = ev n (fun t => q (g t)) (q (X l)) + (if i ≤ l then q (Y l) else 0)
 | 0, i, g, h, _ => by
  rw [if_neg (by omega)]
  show ev n (fun t => q (g t)) (q (X l)) = _
  grind
 | j + 1, i, g, h, hg => by
  have e : iterF (coefSt X Y n) (j + 1) i g = iterF (coefSt X Y n) j (i + 1) (coefSt X Y n i g) := rfl
  rw [e, coef_at hX hY hl hd j (i + 1) _ (by omega) (coefSt_lt hg), coefSt_ev hX hY (by omega) hg]
  by_cases hil : i = l
  ·
   subst hil
   have hne : prx (fun i => q (X i)) i (q (X i)) n 0 ≠ 0 := prx_ne (X := fun i => q (X i)) n 0 fun l h1 h2 h3 => by
    rcases Nat.lt_or_gt_of_ne h3 with h4 | h4
    ·
     exact (q_ne (hX l) (hX i) (hd l i h4 hl)).symm
    ·
     exact q_ne (hX i) (hX l) (hd i l h4 (by omega))
   have := qi_mul hne
   rw [if_neg (by omega), if_pos (by omega)]; grind
  ·
   have hz : prx (fun i => q (X i)) i (q (X l)) n 0 = 0 := prx_zero (X := fun i => q (X i)) (fun e => hil e.symm) n 0 (by omega) (by omega)
   rw [hz]
   by_cases h1 : i + 1 ≤ l
   ·
    rw [if_pos h1, if_pos (by omega)]; grind
   ·
    rw [if_neg h1, if_neg (by omega)]; grind
theorem coefG_at {X Y : Nat → Nat} (hX : LtE X) (hY : LtE Y) {n l : Nat} (hl : l < n) (hd : ∀ i j, i < j → j < n → X i ≠ X j) : ev n (fun t => q (coefG X Y n t)) (q (X l)) = q (Y l) := by
 unfold coefG
 rw [coef_at hX hY hl hd n 0 _ (by omega) ltE_zero, if_pos (by omega), show (fun t => q ((fun _ => 0) t)) = fun (_ : Nat) => (0 : Q) from rfl, ev_zero]; grind
theorem newt_coef {X Y : Nat → Nat} (hX : LtE X) (hY : LtE Y) {n : Nat} (hn : 1 ≤ n) (hd : ∀ i j, i < j → j < n → X i ≠ X j) : ∀ i, i < n → newtG X Y n i = coefG X Y n i := fun i hi => by
 have := unique (n := n) (c := fun j => q (newtG X Y n j)) (d := fun j => q (coefG X Y n j)) (r := fun i => q (X i)) (fun l hl => by rw [newt_at hX hY hn hd hl, coefG_at hX hY hl hd]) (fun a b h1 h2 => q_ne (hX a) (hX b) (hd a b h1 h2)) i hi
 exact q_inj (newtG_lt X Y n i) (coefG_lt X Y n i) this
theorem dupAll_congr {k k' : Nat → List Int} {n : Nat} (h : ∀ i, i < n → k i = k' i) : dupAll k n 0 = dupAll k' n 0 := by
 rw [Bool.eq_iff_iff, dupAll_iff, dupAll_iff]
 constructor <;> rintro ⟨a, b, h1, h2, h3, h4⟩ <;> refine ⟨a, b, h1, h2, h3, ?_⟩
 ·
  rw [← h a (by omega), ← h b (by omega)]; exact h4
 ·
  rw [h a (by omega), h b (by omega)]; exact h4
theorem take_el {p : List Int} {t e w : Nat} (h : e + w ≤ t) : List.take w (List.drop e (List.take t p)) = List.take w (List.drop e p) := by
 rw [List.drop_take, List.take_take, Nat.min_eq_left (by omega)]
theorem take_ptX {p : List Int} {t i : Nat} (h : i < t) : ptX (p.take (t * 64)) i = ptX p i := take_el (by omega)
theorem take_ptY {p : List Int} {t i : Nat} (h : i < t) : ptY (p.take (t * 64)) i = ptY p i := take_el (by omega)
theorem take_okP {p : List Int} (hp : okP p = true) (t : Nat) : okP (p.take (t * 64)) = true := by
 have hn := okP_n hp
 unfold okP at hp ⊢
 simp only [Bool.and_eq_true] at hp ⊢
 refine ⟨⟨?_, ?_⟩, ?_⟩
 ·
  rw [List.length_take]
  have : min (t * 64) p.length % 64 = 0 := by
   rcases Nat.le_total (t * 64) p.length with h | h
   ·
    rw [Nat.min_eq_left h]; omega
   ·
    rw [Nat.min_eq_right h]; omega
  rw [this]; rfl
 ·
  rw [List.length_take]; exact Nat.ble_eq_true_of_le (by omega)
 ·
  rw [List.all_eq_true] at hp ⊢
  exact fun b hb => hp.2 b (List.mem_of_mem_take hb)
theorem take_div {p : List Int} {t : Nat} (h : t ≤ p.length / 64) : (p.take (t * 64)).length / 64 = t := by rw [List.length_take, Nat.min_eq_left (by omega)]; omega
theorem dups_neq {p : List Int} (h : dupsP p = false) : ∀ i j, i < j → j < p.length / 64 → pX p i ≠ pX p j := fun i j h1 h2 e => by
 have : dupsP p = true := dupAll_iff.2 ⟨i, j, h1, by omega, by omega, by unfold keyP; rw [e]⟩
 rw [h] at this; cases this
theorem dups_take {p : List Int} {t : Nat} (h : t ≤ p.length / 64) (hd : dupsP p = false) : dupsP (p.take (t * 64)) = false := by
 have hne := dups_neq hd
 cases hq : dupsP (p.take (t * 64)) with
 | false => rfl
 | true =>
  obtain ⟨a, b, h1, _, h3, h4⟩ := dupAll_iff.1 hq
  rw [take_div h, Nat.zero_add] at h3
  unfold keyP pX at h4
  rw [take_ptX (show a < t by omega), take_ptX h3] at h4
  exact absurd (sN_inj1 (vS_lt _) (vS_lt _) h4) (hne a b h1 (by omega))
theorem newt_arr {p : List Int} {t : Nat} (h1 : 1 ≤ t) (ht : t ≤ p.length / 64) (hd : dupsP p = false) :
  arrN (newtG (pX (p.take (t * 64))) (pY (p.take (t * 64))) t) t = arrN (coefG (pX p) (pY p) t) t := by
 have hne := dups_neq (dups_take ht hd)
 rw [take_div ht] at hne
 rw [arr_congr (newt_coef (pX_lt _) (pY_lt _) h1 hne), coefG_congr (X' := pX p) (Y' := pY p) (fun j hj => by unfold pX; rw [take_ptX hj]) (fun j hj => by unfold pY; rw [take_ptY hj])]
def onG (p : List Int) (c : List Int) : Nat → Nat → Bool
 | 0, _ => true
 | j + 1, i => decide (evN c (pX p i) = pY p i) && onG p c j (i + 1)
def togB (p : List Int) (t : Nat) : Bool := onG p (arrN (coefG (pX p) (pY p) t) t) (p.length / 64 - t) t
theorem f105_loop {R : Type} {N : Nat} (K : Bool → Option R) {p c : List Int} {n t : Nat} (hp : okP p = true) (hc : okF c = true) (hn : p.length / 64 = n) (hb : n ≤ 2000000) (ht : t ≤ n) :
  ∀ j i : Nat, i + j = n - t → ∀ fuel, j < fuel → f105_0_lp N (fun w _ _ _ _ _ _ _ _ _ _ => K w) (fun _ _ _ _ _ _ _ => K true) fuel (t : Int) ((n - t : Nat) : Int) ((n - t : Nat) : Int) (i : Int) p c = K (onG p c j (t + i)) := by
 intro j
 induction j with
 | zero =>
  intro i h fuel hf
  obtain ⟨f, rfl⟩ : ∃ f, fuel = f + 1 := ⟨fuel - 1, by omega⟩
  show f105_0_st N (f105_0_lp N _ _ f) _ _ _ _ _ _ _ _ = _
  unfold f105_0_st
  rw [ltF (by omega), cond_false]; rfl
 | succ j ih =>
  intro i h fuel hf
  obtain ⟨f, rfl⟩ : ∃ f, fuel = f + 1 := ⟨fuel - 1, by omega⟩
  show f105_0_st N (f105_0_lp N _ _ f) _ _ _ _ _ _ _ _ = _
  unfold f105_0_st
  have e1 : List.take 32 (List.drop ((Int.toNat (t : Int) + Int.toNat (i : Int)) * 64 + 0) p) = ptX p (t + i) := rfl
  have e2 : List.take 32 (List.drop ((Int.toNat (t : Int) + Int.toNat (i : Int)) * 64 + (0 + 32)) p) = ptY p (t + i) := rfl
  have hz : okB (List.replicate 32 (0 : Int)) = true := by rw [b_zero']; exact okB_sN 0
  have hk2 : addN (vS (ptY p (t + i))) (vS (List.replicate 32 (0 : Int))) = pY p (t + i) := by
   rw [b_zero', vS_sN ell_pos, addN_zero (vS_lt _)]; rfl
  have hnn : nI (Int.toNat ((n - t : Nat) : Int)) = ((n - t : Nat) : Int) := rfl
  have hdec : decide (sN (evN c (vS (ptX p (t + i)))) = sN (pY p (t + i))) = decide (evN c (pX p (t + i)) = pY p (t + i)) := by
   rw [decide_eq_decide]
   exact ⟨fun h => sN_inj1 (evN_lt _ _) (pY_lt p _) h, fun h => congrArg sN h⟩
  dsimp only
  rw [ltT (show i < n - t by omega), ge0, hnn, ltT (show i < n - t by omega), e1, e2, hc, okP_x hp (by omega), okP_y hp (by omega), hz, hk2, hdec, wAdd (by omega)]
  simp only [Bool.and_self, cond_true]
  show _ = K (decide (evN c (pX p (t + i)) = pY p (t + i)) && onG p c j (t + i + 1))
  cases decide (evN c (pX p (t + i)) = pY p (t + i)) with
  | false => rfl
  | true =>
   rw [Bool.not_true, cond_false, Bool.true_and]
   exact ih (i + 1) (by omega) f (by omega)
def I105 : (R : Type) → List DV → (List DV → Option R) → Option R := fun _ ds k => match ds with
 | [.lst (.mix l) 64 p, .v (.one (.int .i64 t))] => match cksEq l ck105 with
  | true => bif okP p && (!(dupsP p) && (decide (1 ≤ t) && (decide (t ≤ 255) && Nat.ble (p.length / 64) 2000000))) then k [.v (.one (.bool (bif Nat.ble (p.length / 64) t.toNat then true else togB p t.toNat)))] else none
  | false => none
 | _ => none
theorem c105 : Contract Tryz.prog 105 { sig := S105, impl := I105 } := by
 refine Contract.refine fun R ds k r h => ?_
 unfold I105 at h
 split at h
 ·
  rename_i l p t
  refine ⟨_, f105_contract (p.length / 64 + 2) GT4_ok, ?_⟩
  split at h
  ·
   rename_i hl
   have hl := cksEq_iff.1 hl
   subst hl
   cases hc : okP p && (!(dupsP p) && (decide (1 ≤ t) && (decide (t ≤ 255) && Nat.ble (p.length / 64) 2000000))) with
   | false => rw [hc] at h; cases h
   | true =>
    rw [hc, cond_true] at h
    simp only [Bool.and_eq_true, Bool.not_eq_true', decide_eq_true_eq] at hc
    obtain ⟨h1, h2, h3, h4, h5⟩ := hc
    have h5 := Nat.le_of_ble_eq_true h5
    obtain ⟨m, rfl⟩ : ∃ m : Nat, t = (m : Int) := ⟨t.toNat, by omega⟩
    rw [Int.toNat_natCast] at h
    show call (E105 (p.length / 64 + 2)) S105 38 B105 R105 [DV.lst (RK.mix ck105) 64 p, .v (.one (.int .i64 (m : Int)))] k = some r
    rw [f105_raw_eq]
    unfold f105_raw
    rw [rows64]
    have r0 : rowLen 64 p = p.length / 64 := rfl
    generalize hn : p.length / 64 = n at *
    by_cases hmn : n ≤ m
    ·
     rw [Nat.ble_eq_true_of_le hmn, cond_true] at h
     rw [decide_eq_true (show (m : Int) ≥ (n : Int) by omega), cond_true]
     exact h
    ·
     rw [show Nat.ble n m = false by cases hb : Nat.ble n m with | false => rfl | true => exact absurd (Nat.le_of_ble_eq_true hb) hmn, cond_false] at h
     rw [decide_eq_false (show ¬ (m : Int) ≥ (n : Int) by omega), cond_false, r0]
     have e1 : hiOk (some (m : Int)) n = true := by
      show (decide ((0 : Int) ≤ (m : Int)) && decide ((m : Int) ≤ (n : Int))) = true
      rw [decide_eq_true (by omega), decide_eq_true (by omega)]; rfl
     have e2 : loOk (some (m : Int)) (hiInt none n) = true := by
      show (decide ((0 : Int) ≤ (m : Int)) && decide ((m : Int) ≤ (n : Int))) = true
      rw [decide_eq_true (by omega), decide_eq_true (by omega)]; rfl
     have e3 : Go.Eng.sub p (Off.el 0 64 0) (Go.Eng.subN (hiNat (some (m : Int)) n) none * 64) = p.take (m * 64) := by
      show (p.drop (0 * 64 + 0)).take (Int.toNat (m : Int) * 64) = _
      rfl
     have e4 : badP (p.take (m * 64)) = false := by
      unfold badP
      rw [take_div (by omega), decide_eq_false (by omega), decide_eq_false (by omega)]; rfl
     have e5 : Go.Eng.subN (hiNat none n) (some (m : Int)) = n - m := rfl
     rw [e1, cond_true]
     dsimp only
     rw [e3, take_okP h1 m, e4, dups_take (by omega) h2, e2, e5, take_div (by omega), newt_arr (by omega) (by omega) h2]
     simp only [cond_true, cond_false]
     have := f105_loop (N := n + 2) (fun w => k [DV.v (SV.one (At.bool w))]) h1 (arr_okF (f := coefG (pX p) (pY p) m) (n := m) (by omega)) hn h5 (show m ≤ n by omega) (n - m) 0 (by omega) (n + 2) (by omega)
     unfold togB at h
     rw [hn] at h
     exact this.trans h
  ·
   cases h
 ·
  cases h
def valG (X Y : Nat → Nat) (v n : Nat) : Nat → Nat
 | 0 => 0
 | i + 1 => addN (valG X Y v n i) (mulN (basG X v n i) (Y i))
theorem blk_el {g : Nat → List Int} {n : Nat} (h : ∀ i, i < n → (g i).length = 32) : ∀ m, m ≤ n → (headG g m).length = m * 32 ∧ ∀ i, i < m → elF (headG g m) i = g i
 | 0, _ => ⟨rfl, fun i hi => by omega⟩
 | m + 1, hm => by
  obtain ⟨h1, h2⟩ := blk_el h m (by omega)
  have hl : (headG g (m + 1)).length = (m + 1) * 32 := by
   show (headG g m ++ g m).length = _
   rw [List.length_append, h1, h m (by omega)]; omega
  refine ⟨hl, fun i hi => ?_⟩
  show List.take 32 (List.drop (i * 32) (headG g m ++ g m)) = g i
  by_cases e : i = m
  ·
   subst e
   rw [List.drop_left' h1, List.take_of_length_le (by rw [h i (by omega)]; omega)]
  ·
   have := h2 i (by omega)
   unfold elF at this
   rw [List.drop_append_of_le_length (by omega), List.take_append_of_le_length (by rw [List.length_drop]; omega)]
   exact this
theorem blk_okF {g : Nat → List Int} {n : Nat} (h : ∀ i, i < n → okB (g i) = true) (hb : n * 32 ≤ 1073741824) : okF (headG g n) = true := by
 have hl := (blk_el (g := g) (n := n) (fun i hi => okB_len' (h i hi)) n (Nat.le_refl _)).1
 unfold okF
 rw [Bool.and_eq_true, Bool.and_eq_true]
 refine ⟨⟨?_, ?_⟩, ?_⟩
 ·
  rw [hl, show n * 32 % 32 = 0 by omega]; rfl
 ·
  rw [hl]; exact Nat.ble_eq ▸ hb
 ·
  rw [List.all_eq_true]
  clear hl hb
  induction n with
  | zero => intro b hb; cases hb
  | succ n ih =>
   intro b hb
   have hb : b ∈ headG g n ++ g n := hb
   rcases List.mem_append.1 hb with hb | hb
   ·
    exact ih (fun i hi => h i (by omega)) b hb
   ·
    have := h n (by omega)
    unfold okB at this
    rw [Bool.and_eq_true, List.all_eq_true] at this
    exact this.2 b hb
theorem f103_loop {R : Type} {N : Nat} (k1 : Bool → Int → Int → List Int → List Int → List Int → List Int → List Int → Option R) {p x z : List Int} {n : Nat} (hp : okP p = true) (hn : p.length / 64 = n) (hb : n ≤ 30000) :
  ∀ j i : Nat, i + j = n → ∀ fuel, j < fuel → f103_0_lp N k1 fuel (n : Int) (i : Int) (headG (ptX p) i) (headG (ptY p) i) p x z = k1 false (n : Int) (n : Int) (headG (ptX p) n) (headG (ptY p) n) p x z := by
 intro j
 induction j with
 | zero =>
  intro i h fuel hf
  obtain ⟨f, rfl⟩ : ∃ f, fuel = f + 1 := ⟨fuel - 1, by omega⟩
  show f103_0_st N (f103_0_lp N _ f) _ _ _ _ _ _ _ _ = _
  unfold f103_0_st
  rw [ltF (by omega), cond_false, show i = n by omega]
 | succ j ih =>
  intro i h fuel hf
  obtain ⟨f, rfl⟩ : ∃ f, fuel = f + 1 := ⟨fuel - 1, by omega⟩
  show f103_0_st N (f103_0_lp N _ f) _ _ _ _ _ _ _ _ = _
  unfold f103_0_st
  have e1 : List.take 32 (List.drop (Int.toNat (i : Int) * 64 + 0) p) = ptX p i := rfl
  have e2 : List.take 32 (List.drop (Int.toNat (i : Int) * 64 + (0 + 32)) p) = ptY p i := rfl
  have lx := okB_len' (okP_x hp (i := i) (by omega))
  have ly := okB_len' (okP_y hp (i := i) (by omega))
  have hX : ∀ i, i < n → (ptX p i).length = 32 := fun i hi => okB_len' (okP_x hp (by omega))
  have hY : ∀ i, i < n → (ptY p i).length = 32 := fun i hi => okB_len' (okP_y hp (by omega))
  have r1 : rowLen 32 (headG (ptX p) i) = i := by show (headG (ptX p) i).length / 32 = i; rw [(blk_el hX i (by omega)).1]; omega
  have r2 : rowLen 32 (headG (ptY p) i) = i := by show (headG (ptY p) i).length / 32 = i; rw [(blk_el hY i (by omega)).1]; omega
  have r3 : rowLen 32 (ptX p i) = 1 := by show (ptX p i).length / 32 = 1; rw [lx]
  have r4 : rowLen 32 (ptY p i) = 1 := by show (ptY p i).length / 32 = 1; rw [ly]
  have hle : (Nat.ble ((2 * (i + 1) + 192) * 32) big48 && Nat.ble (i + 1) big48) = true := by
   rw [Bool.and_eq_true, Nat.ble_eq, Nat.ble_eq]; unfold big48; omega
  dsimp only
  rw [ltT (show i < n by omega), rows64, hn, ge0, ltT (show i < n by omega), e1, e2, one_row lx, one_row ly, r1, r2, r3, r4, hle, wAdd (by omega)]
  simp only [Bool.and_self, cond_true]
  exact ih (i + 1) (by omega) f (by omega)
theorem dot_val {a b : List Int} {X Y : Nat → Nat} {v n : Nat} (ha : ∀ i, i < n → vS (elF a i) = basG X v n i) (hb : ∀ i, i < n → vS (elF b i) = Y i) : ∀ i, i ≤ n → dotF a b i = valG X Y v n i
 | 0, _ => rfl
 | i + 1, h => by
  unfold dotF valG
  rw [dot_val ha hb i (by omega), ha i (by omega), hb i (by omega)]
def I103 : (R : Type) → List DV → (List DV → Option R) → Option R := fun _ ds k => match ds with
 | [.lst (.mix l) 64 p, .v (.one (.ints .u8 32 x))] => match cksEq l ck105 with
  | true => bif okP p && (okB x && (!(dupsP p) && Nat.ble (p.length / 64) 30000)) then k [.v (.one (.ints .u8 32 (sN (valG (pX p) (pY p) (vS x) (p.length / 64) (p.length / 64)))))] else none
  | false => none
 | _ => none
theorem c103 : Contract Tryz.prog 103 { sig := S103, impl := I103 } := by
 refine Contract.refine fun R ds k r h => ?_
 unfold I103 at h
 split at h
 ·
  rename_i l p x
  refine ⟨_, f103_contract (p.length / 64 + 2) GT4_ok, ?_⟩
  split at h
  ·
   rename_i hl
   have hl := cksEq_iff.1 hl
   subst hl
   cases hc : okP p && (okB x && (!(dupsP p) && Nat.ble (p.length / 64) 30000)) with
   | false => rw [hc] at h; cases h
   | true =>
    rw [hc, cond_true] at h
    simp only [Bool.and_eq_true, Bool.not_eq_true'] at hc
    obtain ⟨h1, h2, h3, h4⟩ := hc
    have h4 := Nat.le_of_ble_eq_true h4
    show call (E103 (p.length / 64 + 2)) S103 37 B103 R103 [DV.lst (RK.mix ck105) 64 p, .v (.one (.ints .u8 32 x))] k = some r
    rw [f103_raw_eq]
    unfold f103_raw
    rw [rows64]
    unfold dupsP at h3
    generalize hn : p.length / 64 = n at *
    refine (f103_loop _ h1 hn h4 n 0 (by omega) (n + 2) (by omega)).trans ?_
    have hX : ∀ i, i < n → okB (ptX p i) = true := fun i hi => okP_x h1 (by omega)
    have hY : ∀ i, i < n → okB (ptY p i) = true := fun i hi => okP_y h1 (by omega)
    obtain ⟨lx, gx⟩ := blk_el (g := ptX p) (n := n) (fun i hi => okB_len' (hX i hi)) n (Nat.le_refl _)
    obtain ⟨ly, gy⟩ := blk_el (g := ptY p) (n := n) (fun i hi => okB_len' (hY i hi)) n (Nat.le_refl _)
    have dx : (headG (ptX p) n).length / 32 = n := by omega
    have dy : (headG (ptY p) n).length / 32 = n := by omega
    have hs : sameX (headG (ptX p) n) = false := by
     unfold sameX
     rw [dx, dupAll_congr (k' := keyP p) (fun i hi => by unfold numF keyP pX; rw [gx i hi])]
     exact h3
    rw [dx, arr_div, dy, blk_okF hX (by omega), h2, hs, blk_okF hY (by omega), arr_okF (by omega), Nat.ble_eq_true_of_le h4, Nat.beq_refl]
    simp only [Bool.and_self, Bool.not_false, cond_true]
    rw [dot_val (X := pX p) (Y := pY p) (v := vS x) (n := n) (fun i hi => by
     rw [arr_elF _ hi, vS_sN (basG_lt _ _ _ _)]
     exact basG_congr (fun j hj => by unfold numF pX; rw [gx j hj]) hi) (fun i hi => by rw [gy i hi]; rfl) n (Nat.le_refl _)]
    exact h
  ·
   cases h
 ·
  cases h
def I40 : (R : Type) → List DV → (List DV → Option R) → Option R := fun _ ds k => match ds with
 | [.lst (.mix c) 33 s, .v (.one (.int .i64 t)), .v (.one (.int .i64 l))] => match cksEq c ck78 with
  | true => bif okS s then (bif decide (thrE t = 0) then (bif decide (((s.length / 33 : Nat) : Int) < l) then k [.lst (.mix ck105) 64 [], .v (.one (.int .i64 8))] else k [.lst (.mix ck105) 64 (ptsS s (s.length / 33)), .v (.one (.int .i64 (idsN (idsS s (s.length / 33)))))])
    else k [.lst (.mix ck105) 64 [], .v (.one (.int .i64 (thrE t)))]) else none
  | false => none
 | _ => none
theorem c40 : Contract Tryz.prog 40 { sig := S40, impl := I40 } := by
 refine Contract.refine fun R ds k r h => ?_
 unfold I40 at h
 split at h
 ·
  rename_i c s t l
  refine ⟨_, f40_contract 0 GT4_ok, ?_⟩
  split at h
  ·
   rename_i hl
   have hl := cksEq_iff.1 hl
   subst hl
   cases hc : okS s with
   | false => rw [hc] at h; cases h
   | true =>
    rw [hc, cond_true] at h
    obtain ⟨b1, b2, b3⟩ := okS_n hc
    show call (E40 0) S40 28 B40 R40 [DV.lst (RK.mix ck78) 33 s, .v (.one (.int .i64 t)), .v (.one (.int .i64 l))] k = some r
    rw [f40_raw_eq]
    unfold f40_raw
    have hr : nI (rowLen 33 s) = ((s.length / 33 : Nat) : Int) := rfl
    rw [hr, hc, idsS_len, show Nat.ble (s.length / 33) 1073741824 = true from Nat.ble_eq_true_of_le (by omega), cond_true, cond_true]
    by_cases h0 : thrE t = 0
    ·
     rw [decide_eq_true h0, cond_true] at h
     rw [h0, show ((0 : Int) != 0) = false from rfl, cond_false]
     exact h
    ·
     rw [decide_eq_false h0, cond_false] at h
     rw [show (thrE t != 0) = true by simpa using h0, cond_true]
     exact h
  ·
   cases h
 ·
  cases h
def GT5 : Ctx := (40, { sig := S40, impl := I40 }) :: (105, { sig := S105, impl := I105 }) :: (103, { sig := S103, impl := I103 }) :: GT4
theorem GT5_ok : CtxOk Tryz.prog GT5 := ctxOk_cons ok40 rfl c40 (ctxOk_cons ok105 rfl c105 (ctxOk_cons ok103 rfl c103 GT4_ok))
def f33_raw {R : Type} (N : Nat) (s : List Int) (t : Int) (k : List DV → Option R) : Option R :=
 bif okS s then
 bif decide (thrE t = 0) then
 bif decide (nI (s.length / 33) < t) then k [.v (.one (.ints .u8 32 (List.replicate 32 0))), .v (.one (.int .i64 8))]
 else
 bif idsN (idsS s (s.length / 33)) != 0 then k [.v (.one (.ints .u8 32 (List.replicate 32 0))), .v (.one (.int .i64 (idsN (idsS s (s.length / 33)))))]
 else
 bif okP (ptsS s (s.length / 33)) && (!dupsP (ptsS s (s.length / 33)) && (decide (1 ≤ t) && (decide (t ≤ 255) && ((ptsS s (s.length / 33)).length / 64).ble 2000000))) then
 let v0 : Bool := bif ((ptsS s (s.length / 33)).length / 64).ble t.toNat then true else togB (ptsS s (s.length / 33)) t.toNat;
 bif !v0 then k [.v (.one (.ints .u8 32 (List.replicate 32 0))), .v (.one (.int .i64 71))]
 else
 bif hiOk (some t) (rowLen 64 (ptsS s (s.length / 33))) then
 let v1 := Go.Eng.sub (ptsS s (s.length / 33)) (.el 0 64 0) (Go.Eng.subN (hiNat (some t) (rowLen 64 (ptsS s (s.length / 33)))) none * 64);
 bif okP v1 && (okB (List.replicate 32 0) && (!dupsP v1 && (v1.length / 64).ble 30000)) then k [.v (.one (.ints .u8 32 (sN (valG (pX v1) (pY v1) (vS (List.replicate 32 0)) (v1.length / 64) (v1.length / 64))))), .v (.one (.int .i64 0))] else none
 else none
 else none
 else
 bif thrE t != 0 then k [.v (.one (.ints .u8 32 (List.replicate 32 0))), .v (.one (.int .i64 (thrE t)))]
 else
 bif okP [] && (!dupsP [] && (decide (1 ≤ t) && (decide (t ≤ 255) && (([] : List Int).length / 64).ble 2000000))) then
 bif hiOk (some t) (rowLen 64 []) then
 let v2 := Go.Eng.sub [] (.el 0 64 0) (Go.Eng.subN (hiNat (some t) (rowLen 64 [])) none * 64);
 bif okP v2 && (okB (List.replicate 32 0) && (!dupsP v2 && (v2.length / 64).ble 30000)) then k [.v (.one (.ints .u8 32 (sN (valG (pX v2) (pY v2) (vS (List.replicate 32 0)) (v2.length / 64) (v2.length / 64))))), .v (.one (.int .i64 0))] else none
 else none
 else none
else none
def E33 (N : Nat) : Env := { Θ := Th, Γ := GT5, K := K33, ν := N33, fuel := 0, lp := [] }
theorem f33_contract (N : Nat) (hΓ : CtxOk Tryz.prog GT5) : Contract Tryz.prog 33 { sig := S33, impl := fun _ ds k => call (E33 N) S33 29 B33 R33 ds k } :=
 call_contract (E := E33 N) thOk hΓ mixed ok33.look ok33.body ok33.n ok33.rv ok33.name rfl (by decide) (loopsOk_of (l := []) (by kernel_rfl) trivial)
theorem f33_raw_eq {R : Type} (N : Nat) (s : List Int) (t : Int) (k : List DV → Option R) : call (E33 N) S33 29 B33 R33 [.lst (.mix ck78) 33 s, .v (.one (.int .i64 t))] k = f33_raw N s t k := by kernel_rfl
def f31_raw {R : Type} (N : Nat) (s x : List Int) (k : List DV → Option R) : Option R :=
 bif okS s then bif (idsS s (s.length / 33)).length.ble 1073741824 then bif idsN (idsS s (s.length / 33)) != 0 then k [.v (.one (.ints .u8 32 (List.replicate 32 0))), .v (.one (.int .i64 (idsN (idsS s (s.length / 33)))))] else bif okP (ptsS s (s.length / 33)) && (okB x && (!dupsP (ptsS s (s.length / 33)) && ((ptsS s (s.length / 33)).length / 64).ble 30000)) then k [.v (.one (.ints .u8 32 (sN (valG (pX (ptsS s (s.length / 33))) (pY (ptsS s (s.length / 33))) (vS x) ((ptsS s (s.length / 33)).length / 64) ((ptsS s (s.length / 33)).length / 64))))), .v (.one (.int .i64 0))] else none else none else none
def E31 (N : Nat) : Env := { Θ := Th, Γ := GT5, K := K31, ν := N31, fuel := 0, lp := [] }
theorem f31_contract (N : Nat) (hΓ : CtxOk Tryz.prog GT5) : Contract Tryz.prog 31 { sig := S31, impl := fun _ ds k => call (E31 N) S31 23 B31 R31 ds k } :=
 call_contract (E := E31 N) thOk hΓ mixed ok31.look ok31.body ok31.n ok31.rv ok31.name rfl (by decide) (loopsOk_of (l := []) (by kernel_rfl) trivial)
theorem f31_raw_eq {R : Type} (N : Nat) (s x : List Int) (k : List DV → Option R) : call (E31 N) S31 23 B31 R31 [.lst (.mix ck78) 33 s, .v (.one (.ints .u8 32 x))] k = f31_raw N s x k := by kernel_rfl
def f35_raw {R : Type} (N : Nat) (s : List Int) (t : Int) (k : List DV → Option R) : Option R :=
 bif okS s then
 bif decide (thrE t = 0) then
 bif decide (nI (s.length / 33) < 1) then k [.v (.one (.bool false)), .v (.one (.int .i64 8))]
 else
 bif idsN (idsS s (s.length / 33)) != 0 then k [.v (.one (.bool false)), .v (.one (.int .i64 (idsN (idsS s (s.length / 33)))))]
 else
 bif okP (ptsS s (s.length / 33)) && (!dupsP (ptsS s (s.length / 33)) && (decide (1 ≤ t) && (decide (t ≤ 255) && ((ptsS s (s.length / 33)).length / 64).ble 2000000))) then
 let v0 : Bool := bif ((ptsS s (s.length / 33)).length / 64).ble t.toNat then true else togB (ptsS s (s.length / 33)) t.toNat;
 k [.v (.one (.bool v0)), .v (.one (.int .i64 0))]
 else none
 else
 bif thrE t != 0 then k [.v (.one (.bool false)), .v (.one (.int .i64 (thrE t)))]
 else
 bif okP [] && (!dupsP [] && (decide (1 ≤ t) && (decide (t ≤ 255) && (([] : List Int).length / 64).ble 2000000))) then
 let v1 : Bool := bif (([] : List Int).length / 64).ble t.toNat then true else togB [] t.toNat;
 k [.v (.one (.bool v1)), .v (.one (.int .i64 0))]
 else none
else none
def E35 (N : Nat) : Env := { Θ := Th, Γ := GT5, K := K35, ν := N35, fuel := 0, lp := [] }
theorem f35_contract (N : Nat) (hΓ : CtxOk Tryz.prog GT5) : Contract Tryz.prog 35 { sig := S35, impl := fun _ ds k => call (E35 N) S35 20 B35 R35 ds k } :=
 call_contract (E := E35 N) thOk hΓ mixed ok35.look ok35.body ok35.n ok35.rv ok35.name rfl (by decide) (loopsOk_of (l := []) (by kernel_rfl) trivial)
theorem f35_raw_eq {R : Type} (N : Nat) (s : List Int) (t : Int) (k : List DV → Option R) : call (E35 N) S35 20 B35 R35 [.lst (.mix ck78) 33 s, .v (.one (.int .i64 t))] k = f35_raw N s t k := by kernel_rfl
set_option linter.unusedVariables false
set_option linter.unusedVariables false
theorem pigeon : ∀ (m n : Nat) (f : Nat → Nat), (∀ i, i < n → f i < m) → (∀ i j, i < j → j < n → f i ≠ f j) → n ≤ m
 | 0, n, f, h, _ => by
  cases n with
  | zero => exact Nat.le_refl _
  | succ n => have := h 0 (by omega); omega
 | m + 1, n, f, h, hi => by
  by_cases hx : ∃ i, i < n ∧ f i = m
  ·
   obtain ⟨i, h1, h2⟩ := hx
   have := pigeon m (n - 1) (fun j => if j = i then f (n - 1) else f j) (fun j hj => by
    split
    ·
     rename_i e
     have := h (n - 1) (by omega)
     have := hi i (n - 1) (by omega) (by omega)
     omega
    ·
     rename_i e
     have := h j (by omega)
     have : f j ≠ m := fun e2 => by
      rcases Nat.lt_or_gt_of_ne e with h3 | h3
      ·
       exact hi j i h3 h1 (by omega)
      ·
       exact hi i j h3 (by omega) (by omega)
     omega) (fun a b hab hb => by
    by_cases ea : a = i
    ·
     rw [if_pos ea, if_neg (by omega)]
     exact (hi b (n - 1) (by omega) (by omega)).symm
    ·
     rw [if_neg ea]
     by_cases eb : b = i
     ·
      rw [if_pos eb]; exact hi a (n - 1) (by omega) (by omega)
     ·
      rw [if_neg eb]; exact hi a b hab (by omega))
   omega
  ·
   have := pigeon m n f (fun j hj => by
    have := h j hj
    have : f j ≠ m := fun e => hx ⟨j, hj, e⟩
    omega) hi
   omega
theorem idsE_ok {xs : List Int} : ∀ {j i : Nat}, idsE xs j i = 0 → (∀ k, i ≤ k → k < i + j → 1 ≤ xs.getD k 0 ∧ xs.getD k 0 ≤ 255) ∧ ∀ a b, a < b → i ≤ b → b < i + j → xs.getD a 0 ≠ xs.getD b 0
 | 0, i, _ => ⟨fun k h1 h2 => by omega, fun a b h1 h2 h3 => by omega⟩
 | j + 1, i, h => by
  unfold idsE at h
  cases h1 : decide (xs.getD i 0 < 1) || decide (xs.getD i 0 > 255) with
  | true => rw [h1, cond_true] at h; cases h
  | false =>
   rw [h1, cond_false] at h
   cases h2 : dupF xs i i 0 with
   | true => rw [h2, cond_true] at h; cases h
   | false =>
    rw [h2, cond_false] at h
    obtain ⟨g1, g2⟩ := idsE_ok h
    rw [Bool.or_eq_false_iff] at h1
    have a1 := of_decide_eq_false h1.1
    have a2 := of_decide_eq_false h1.2
    refine ⟨fun k k1 k2 => ?_, fun a b b1 b2 b3 => ?_⟩
    ·
     by_cases e : k = i
     ·
      subst e; omega
     ·
      exact g1 k (by omega) (by omega)
    ·
     by_cases e : b = i
     ·
      subst e
      intro e2
      have : dupF xs b b 0 = true := dupF_iff.2 ⟨a, by omega, by omega, e2⟩
      rw [h2] at this; cases this
     ·
      exact g2 a b b1 (by omega) (by omega)
structure IdsOk (xs : List Int) : Prop where
 pos : 1 ≤ xs.length
 le : xs.length ≤ 255
 rng : ∀ k, k < xs.length → 1 ≤ xs.getD k 0 ∧ xs.getD k 0 ≤ 255
 ne : ∀ a b, a < b → b < xs.length → xs.getD a 0 ≠ xs.getD b 0
theorem ids_ok {xs : List Int} (h : idsN xs = 0) : IdsOk xs := by
 unfold idsN at h
 cases h0 : Nat.beq xs.length 0 with
 | true => rw [h0, cond_true] at h; cases h
 | false =>
  rw [h0, cond_false] at h
  obtain ⟨g1, g2⟩ := idsE_ok h
  have hp : 1 ≤ xs.length := by
   cases hl : xs.length with
   | zero => rw [hl] at h0; cases h0
   | succ n => omega
  have hr : ∀ k, k < xs.length → 1 ≤ xs.getD k 0 ∧ xs.getD k 0 ≤ 255 := fun k hk => g1 k (by omega) (by omega)
  have hn : ∀ a b, a < b → b < xs.length → xs.getD a 0 ≠ xs.getD b 0 := fun a b h1 h2 => g2 a b h1 (by omega) (by omega)
  refine ⟨hp, ?_, hr, hn⟩
  exact pigeon 255 xs.length (fun i => (xs.getD i 0 - 1).toNat) (fun i hi => by have := hr i hi; omega) (fun a b h1 h2 => by
   have := hr a (by omega)
   have := hr b h2
   have := hn a b h1 h2
   omega)
theorem plN_id {x : Int} (h1 : 1 ≤ x) (h2 : x ≤ 255) : plN x = x.toNat := by
 unfold plN IntKind.wrap
 simp only [IntKind.bits, IntKind.signed, Bool.false_and, Bool.false_eq_true, if_false, show (2 : Int) ^ 64 = 18446744073709551616 by decide]
 omega
theorem IdsOk.pl {xs : List Int} (h : IdsOk xs) : ∀ i j, i < j → j < xs.length → plF xs i ≠ plF xs j := fun i j h1 h2 => by
 have a1 := h.rng i (by omega)
 have a2 := h.rng j h2
 have a3 := h.ne i j h1 h2
 unfold plF
 rw [plN_id a1.1 a1.2, plN_id a2.1 a2.2]; omega
theorem pts_x {s : List Int} (hs : okS s = true) {i : Nat} (h : i < s.length / 33) : pX (ptsS s (s.length / 33)) i = plF (idsS s (s.length / 33)) i ∧ pY (ptsS s (s.length / 33)) i = vS (shV s i) := by
 obtain ⟨e1, e2⟩ := ptsS_x hs h (Nat.le_refl _)
 unfold pX pY plF
 rw [e1, e2, vS_sN (plN_lt _), idsS_get s h]
 exact ⟨rfl, rfl⟩
theorem pts_div {s : List Int} (hs : okS s = true) : (ptsS s (s.length / 33)).length / 64 = s.length / 33 := by rw [ptsS_len hs _ (Nat.le_refl _)]; omega
theorem pts_dups {s : List Int} (hs : okS s = true) (h : idsN (idsS s (s.length / 33)) = 0) : dupsP (ptsS s (s.length / 33)) = false := by
 have hi := ids_ok h
 cases hq : dupsP (ptsS s (s.length / 33)) with
 | false => rfl
 | true =>
  obtain ⟨a, b, h1, _, h3, h4⟩ := dupAll_iff.1 hq
  rw [pts_div hs, Nat.zero_add] at h3
  unfold keyP at h4
  have h4 := sN_inj1 (pX_lt _ _) (pX_lt _ _) h4
  rw [(pts_x hs (show a < _ by omega)).1, (pts_x hs h3).1] at h4
  exact absurd h4 (hi.pl a b h1 (by rw [idsS_len]; exact h3))
theorem thr_ok {t : Int} (h : thrE t = 0) : 1 ≤ t ∧ t ≤ 255 := by
 unfold thrE at h
 cases hq : decide (t < 1) || decide (t > 255) with
 | true => rw [hq] at h; cases h
 | false =>
  rw [Bool.or_eq_false_iff] at hq
  have := of_decide_eq_false hq.1
  have := of_decide_eq_false hq.2
  omega
def P33 (s : List Int) : List Int := ptsS s (s.length / 33)
def ids33 (s : List Int) : List Int := idsS s (s.length / 33)
def onB (s : List Int) (t : Nat) : Bool := bif Nat.ble (s.length / 33) t then true else togB (P33 s) t
def zS : List Int := sN 0
theorem zS_eq : List.replicate 32 (0 : Int) = zS := b_zero'
theorem vS_z : vS (List.replicate 32 (0 : Int)) = 0 := by rw [b_zero']; exact vS_sN ell_pos
theorem okB_z : okB (List.replicate 32 (0 : Int)) = true := by rw [b_zero']; exact okB_sN 0
def I35 : (R : Type) → List DV → (List DV → Option R) → Option R := fun _ ds k => match ds with
 | [.lst (.mix c) 33 s, .v (.one (.int .i64 t))] => match cksEq c ck78 with
  | true => bif okS s then (bif decide (thrE t = 0) then (bif decide (((s.length / 33 : Nat) : Int) < 1) then k [.v (.one (.bool false)), .v (.one (.int .i64 8))] else bif decide (idsN (ids33 s) = 0) then k [.v (.one (.bool (onB s t.toNat))), .v (.one (.int .i64 0))] else k [.v (.one (.bool false)), .v (.one (.int .i64 (idsN (ids33 s))))])
    else k [.v (.one (.bool false)), .v (.one (.int .i64 (thrE t)))]) else none
  | false => none
 | _ => none
theorem c35 : Contract Tryz.prog 35 { sig := S35, impl := I35 } := by
 refine Contract.refine fun R ds k r h => ?_
 unfold I35 at h
 split at h
 ·
  rename_i c s t
  refine ⟨_, f35_contract 0 GT5_ok, ?_⟩
  split at h
  ·
   rename_i hl
   have hl := cksEq_iff.1 hl
   subst hl
   cases hc : okS s with
   | false => rw [hc] at h; cases h
   | true =>
    rw [hc, cond_true] at h
    obtain ⟨b1, b2, b3⟩ := okS_n hc
    show call (E35 0) S35 20 B35 R35 [DV.lst (RK.mix ck78) 33 s, .v (.one (.int .i64 t))] k = some r
    rw [f35_raw_eq]
    unfold f35_raw
    rw [hc, cond_true]
    by_cases h0 : thrE t = 0
    ·
     rw [decide_eq_true h0, cond_true] at h ⊢
     have ht := thr_ok h0
     have hr : nI (s.length / 33) = ((s.length / 33 : Nat) : Int) := rfl
     rw [hr]
     cases h1 : decide (((s.length / 33 : Nat) : Int) < 1) with
     | true => rw [h1] at h; exact h
     | false =>
      rw [h1, cond_false] at h
      rw [cond_false]
      by_cases h2 : idsN (idsS s (s.length / 33)) = 0
      ·
       have h2' : idsN (ids33 s) = 0 := h2
       have hi := ids_ok h2
       rw [decide_eq_true h2', cond_true] at h
       have hn := idsS_len s (s.length / 33)
       have hle := hi.le
       rw [h2, show ((0 : Int) != 0) = false from rfl, cond_false, ptsS_ok hc (Nat.le_refl _) (by omega), pts_dups hc h2, pts_div hc, decide_eq_true ht.1, decide_eq_true ht.2, Nat.ble_eq_true_of_le (show s.length / 33 ≤ 2000000 by omega)]
       exact h
      ·
       have h2' : ¬ idsN (ids33 s) = 0 := h2
       rw [decide_eq_false h2', cond_false] at h
       rw [show (idsN (idsS s (s.length / 33)) != 0) = true by simpa using h2, cond_true]
       exact h
    ·
     rw [decide_eq_false h0, cond_false] at h ⊢
     rw [show (thrE t != 0) = true by simpa using h0, cond_true]
     exact h
  ·
   cases h
 ·
  cases h
def I33 : (R : Type) → List DV → (List DV → Option R) → Option R := fun _ ds k => match ds with
 | [.lst (.mix c) 33 s, .v (.one (.int .i64 t))] => match cksEq c ck78 with
  | true => bif okS s then (bif decide (thrE t = 0) then (bif decide (((s.length / 33 : Nat) : Int) < t) then k [.v (.one (.ints .u8 32 zS)), .v (.one (.int .i64 8))] else bif decide (idsN (ids33 s) = 0) then (bif onB s t.toNat then k [.v (.one (.ints .u8 32 (sN (valG (pX (P33 s)) (pY (P33 s)) 0 t.toNat t.toNat)))), .v (.one (.int .i64 0))] else k [.v (.one (.ints .u8 32 zS)), .v (.one (.int .i64 71))])
     else k [.v (.one (.ints .u8 32 zS)), .v (.one (.int .i64 (idsN (ids33 s))))])
    else k [.v (.one (.ints .u8 32 zS)), .v (.one (.int .i64 (thrE t)))]) else none
  | false => none
 | _ => none
theorem valG_congr {X X' Y Y' : Nat → Nat} {v n : Nat} (h : ∀ j, j < n → X j = X' j) (h' : ∀ j, j < n → Y j = Y' j) : ∀ i, i ≤ n → valG X Y v n i = valG X' Y' v n i
 | 0, _ => rfl
 | i + 1, hi => by
  unfold valG
  rw [valG_congr h h' i (by omega), basG_congr h (show i < n by omega), h' i (by omega)]
theorem c33 : Contract Tryz.prog 33 { sig := S33, impl := I33 } := by
 refine Contract.refine fun R ds k r h => ?_
 unfold I33 at h
 split at h
 ·
  rename_i c s t
  refine ⟨_, f33_contract 0 GT5_ok, ?_⟩
  split at h
  ·
   rename_i hl
   have hl := cksEq_iff.1 hl
   subst hl
   cases hc : okS s with
   | false => rw [hc] at h; cases h
   | true =>
    rw [hc, cond_true] at h
    obtain ⟨b1, b2, b3⟩ := okS_n hc
    show call (E33 0) S33 29 B33 R33 [DV.lst (RK.mix ck78) 33 s, .v (.one (.int .i64 t))] k = some r
    rw [f33_raw_eq]
    unfold f33_raw
    rw [hc, cond_true]
    by_cases h0 : thrE t = 0
    ·
     rw [decide_eq_true h0, cond_true] at h ⊢
     have ht := thr_ok h0
     have hr : nI (s.length / 33) = ((s.length / 33 : Nat) : Int) := rfl
     rw [hr]
     cases h1 : decide (((s.length / 33 : Nat) : Int) < t) with
     | true => rw [h1] at h; rw [cond_true, zS_eq]; exact h
     | false =>
      rw [h1, cond_false] at h
      rw [cond_false]
      have h1 := of_decide_eq_false h1
      by_cases h2 : idsN (idsS s (s.length / 33)) = 0
      ·
       have h2' : idsN (ids33 s) = 0 := h2
       have hi := ids_ok h2
       rw [decide_eq_true h2', cond_true] at h
       have hn := idsS_len s (s.length / 33)
       have hle := hi.le
       have hd := pts_dups hc h2
       obtain ⟨m, rfl⟩ : ∃ m : Nat, t = (m : Int) := ⟨t.toNat, by omega⟩
       have hP := ptsS_ok hc (Nat.le_refl (s.length / 33)) (by omega)
       have hpd := pts_div hc
       rw [h2, show ((0 : Int) != 0) = false from rfl, cond_false, hP, hd, hpd, decide_eq_true ht.1, decide_eq_true ht.2, Nat.ble_eq_true_of_le (show s.length / 33 ≤ 2000000 by omega)]
       have hon : (bif Nat.ble (s.length / 33) (Int.toNat (m : Int)) then true else togB (ptsS s (s.length / 33)) (Int.toNat (m : Int))) = onB s m := rfl
       rw [Int.toNat_natCast] at h
       simp only [Bool.and_self, Bool.not_false, cond_true]
       rw [hon]
       cases hb : onB s m with
       | false => rw [hb] at h; rw [Bool.not_false, cond_true, zS_eq]; exact h
       | true =>
        rw [hb, cond_true] at h
        have r0 : rowLen 64 (ptsS s (s.length / 33)) = s.length / 33 := hpd
        have e1 : hiOk (some (m : Int)) (s.length / 33) = true := by
         show (decide ((0 : Int) ≤ (m : Int)) && decide ((m : Int) ≤ ((s.length / 33 : Nat) : Int))) = true
         rw [decide_eq_true (by omega), decide_eq_true (by omega)]; rfl
        have e3 : Go.Eng.sub (ptsS s (s.length / 33)) (Off.el 0 64 0) (Go.Eng.subN (hiNat (some (m : Int)) (s.length / 33)) none * 64) = (ptsS s (s.length / 33)).take (m * 64) := rfl
        have hmn : m ≤ (ptsS s (s.length / 33)).length / 64 := by omega
        rw [Bool.not_true, cond_false, r0, e1, cond_true, e3, take_okP hP m, okB_z, dups_take hmn hd, take_div hmn, Nat.ble_eq_true_of_le (show m ≤ 30000 by omega), vS_z,
         valG_congr (X' := pX (P33 s)) (Y' := pY (P33 s)) (fun j hj => by unfold pX; rw [take_ptX hj]; rfl) (fun j hj => by unfold pY; rw [take_ptY hj]; rfl) m (Nat.le_refl _)]
        exact h
      ·
       have h2' : ¬ idsN (ids33 s) = 0 := h2
       rw [decide_eq_false h2', cond_false] at h
       rw [show (idsN (idsS s (s.length / 33)) != 0) = true by simpa using h2, cond_true, zS_eq]
       exact h
    ·
     rw [decide_eq_false h0, cond_false] at h ⊢
     rw [show (thrE t != 0) = true by simpa using h0, cond_true, zS_eq]
     exact h
  ·
   cases h
 ·
  cases h
def I31 : (R : Type) → List DV → (List DV → Option R) → Option R := fun _ ds k => match ds with
 | [.lst (.mix c) 33 s, .v (.one (.ints .u8 32 x))] => match cksEq c ck78 with
  | true => bif okS s && okB x then (bif decide (idsN (ids33 s) = 0) then k [.v (.one (.ints .u8 32 (sN (valG (pX (P33 s)) (pY (P33 s)) (vS x) (s.length / 33) (s.length / 33))))), .v (.one (.int .i64 0))] else k [.v (.one (.ints .u8 32 zS)), .v (.one (.int .i64 (idsN (ids33 s))))]) else none
  | false => none
 | _ => none
theorem c31 : Contract Tryz.prog 31 { sig := S31, impl := I31 } := by
 refine Contract.refine fun R ds k r h => ?_
 unfold I31 at h
 split at h
 ·
  rename_i c s x
  refine ⟨_, f31_contract 0 GT5_ok, ?_⟩
  split at h
  ·
   rename_i hl
   have hl := cksEq_iff.1 hl
   subst hl
   cases hc2 : okS s && okB x with
   | false => rw [hc2] at h; cases h
   | true =>
    rw [hc2, cond_true] at h
    rw [Bool.and_eq_true] at hc2
    have hc := hc2.1
    obtain ⟨b1, b2, b3⟩ := okS_n hc
    show call (E31 0) S31 23 B31 R31 [DV.lst (RK.mix ck78) 33 s, .v (.one (.ints .u8 32 x))] k = some r
    rw [f31_raw_eq]
    unfold f31_raw
    rw [hc, cond_true, idsS_len, Nat.ble_eq_true_of_le (show s.length / 33 ≤ 1073741824 by omega), cond_true]
    by_cases h2 : idsN (idsS s (s.length / 33)) = 0
    ·
     have h2' : idsN (ids33 s) = 0 := h2
     have hi := ids_ok h2
     rw [decide_eq_true h2', cond_true] at h
     have hn := idsS_len s (s.length / 33)
     have hle := hi.le
     rw [h2, show ((0 : Int) != 0) = false from rfl, cond_false, ptsS_ok hc (Nat.le_refl _) (by omega), hc2.2, pts_dups hc h2, pts_div hc, Nat.ble_eq_true_of_le (show s.length / 33 ≤ 30000 by omega)]
     exact h
    ·
     have h2' : ¬ idsN (ids33 s) = 0 := h2
     rw [decide_eq_false h2', cond_false] at h
     rw [show (idsN (idsS s (s.length / 33)) != 0) = true by simpa using h2, cond_true, zS_eq]
     exact h
  ·
   cases h
 ·
  cases h
theorem pl_same {ids : List Int} (h : idsN ids = 0) : sameX (arrN (plF ids) ids.length) = false := by
 have hi := ids_ok h
 cases hq : sameX (arrN (plF ids) ids.length) with
 | false => rfl
 | true =>
  obtain ⟨a, b, h1, _, h3, h4⟩ := dupAll_iff.1 hq
  rw [arr_div, Nat.zero_add] at h3
  rw [numF_arr (plF_lt ids) (show a < _ by omega), numF_arr (plF_lt ids) h3] at h4
  exact absurd (sN_inj1 (plF_lt ids a) (plF_lt ids b) h4) (hi.pl a b h1 h3)
set_option linter.unusedVariables false
def elC : Nat := 7237005577332262213973186563042994240857116359379907606001950938285454250989
theorem ell_elC : ell = elC := ell_def
def sC (v : Nat) : List Int := nats (digs 256 32 v)
theorem sN_sC (v : Nat) : sN v = sC v := sN_def v
def vC (x : List Int) : Nat := numB x % elC
theorem vS_vC (x : List Int) : vS x = vC x := by rw [vS_def, ell_elC]; rfl
def pwC : Nat → Nat → Nat → Nat
 | 0, _, _ => 1
 | n + 1, b, e => bif Nat.beq (e % 2) 1 then b * pwC n (b * b % elC) (e / 2) % elC else pwC n (b * b % elC) (e / 2)
theorem pwC_eq : ∀ (n b e : Nat), e < 2 ^ n → pwC n b e % elC = b ^ e % elC
 | 0, b, e, h => by
  have : e = 0 := by simp at h; exact h
  subst this; rfl
 | n + 1, b, e, h => by
  have ih := pwC_eq n (b * b % elC) (e / 2) (by rw [Nat.pow_succ] at h; omega)
  have e1 : (b * b % elC) ^ (e / 2) % elC = b ^ (2 * (e / 2)) % elC := by
   rw [← Nat.pow_mod, ← Nat.pow_two, ← Nat.pow_mul]
  unfold pwC
  have h2 := Nat.mod_two_eq_zero_or_one e
  cases hb : Nat.beq (e % 2) 1 with
  | true =>
   have h3 := Nat.eq_of_beq_eq_true hb
   rw [cond_true, Nat.mod_mod, Nat.mul_mod, ih, e1, ← Nat.mul_mod]
   have : e = 2 * (e / 2) + 1 := by omega
   rw [show b * b ^ (2 * (e / 2)) = b ^ (2 * (e / 2) + 1) by rw [Nat.pow_succ, Nat.mul_comm], ← this]
  | false =>
   have h3 : e % 2 ≠ 1 := fun q => by rw [q] at hb; cases hb
   rw [cond_false, ih, e1]
   have : e = 2 * (e / 2) := by omega
   rw [← this]
def inC (a : Nat) : Nat := pwC 256 a 7237005577332262213973186563042994240857116359379907606001950938285454250987 % elC
theorem invN_inC (a : Nat) : invN a = inC a := by
 rw [invN_def, powN_def, ell_elC]
 exact (pwC_eq 256 a _ (by decide +kernel)).symm
def adC (a b : Nat) : Nat := (a + b) % elC
def ngC (a : Nat) : Nat := (elC - a) % elC
def mlC (a b : Nat) : Nat := a * b % elC
theorem addN_adC (a b : Nat) : addN a b = adC a b := by rw [addN_def, ell_elC]; rfl
theorem negN_ngC (a : Nat) : negN a = ngC a := by rw [negN_def, ell_elC]; rfl
theorem mulN_mlC (a b : Nat) : mulN a b = mlC a b := by rw [mulN_def, ell_elC]; rfl
theorem difN_C (a b : Nat) : difN a b = adC a (ngC b) := by unfold difN; rw [addN_adC, negN_ngC]
def C42 : (R : Type) → List DV → (List DV → Option R) → Option R := fun _ ds k => match ds with
 | [.v (.one (.ints .u8 32 x)), .v (.one (.ints .u8 32 y))] => bif okB x && okB y then k [.v (.one (.ints .u8 32 (sC (adC (vC x) (vC y)))))] else none
 | _ => none
def C79 : (R : Type) → List DV → (List DV → Option R) → Option R := fun _ ds k => match ds with
 | [.v (.one (.ints .u8 32 x)), .v (.one (.ints .u8 32 y))] => bif okB x && okB y then k [.v (.one (.ints .u8 32 (sC (adC (vC x) (ngC (vC y))))))] else none
 | _ => none
def C80 : (R : Type) → List DV → (List DV → Option R) → Option R := fun _ ds k => match ds with
 | [.v (.one (.ints .u8 32 x)), .v (.one (.ints .u8 32 y))] => bif okB x && okB y then k [.v (.one (.ints .u8 32 (sC (mlC (vC x) (vC y)))))] else none
 | _ => none
def C74 : (R : Type) → List DV → (List DV → Option R) → Option R := fun _ ds k => match ds with
 | [.v (.one (.ints .u8 32 x)), .v (.one (.ints .u8 32 y)), .v (.one (.ints .u8 32 z))] => bif okB x && okB y && okB z then k [.v (.one (.ints .u8 32 (sC (adC (mlC (vC x) (vC y)) (vC z)))))] else none
 | _ => none
def C111 : (R : Type) → List DV → (List DV → Option R) → Option R := fun _ ds k => match ds with
 | [.v (.one (.ints .u8 32 x))] => bif okB x then k [.v (.one (.ints .u8 32 (sC (ngC (vC x)))))] else none
 | _ => none
def C154 : (R : Type) → List DV → (List DV → Option R) → Option R := fun _ ds k => match ds with
 | [.v (.one (.ints .u8 32 x))] => bif okB x then k [.v (.one (.bool (Nat.beq (vC x) 0)))] else none
 | _ => none
def C78 : (R : Type) → List DV → (List DV → Option R) → Option R := fun _ ds k => match ds with
 | [.v (.one (.ints .u8 32 x))] => bif okB x then (bif Nat.beq (vC x) 0 then k [.v (.one (.ints .u8 32 (List.replicate 32 0))), .v (.one (.int .i64 9))] else k [.v (.one (.ints .u8 32 (sC (inC (vC x))))), .v (.one (.int .i64 0))]) else none
 | _ => none
def C68 : (R : Type) → List DV → (List DV → Option R) → Option R := fun _ ds k => match ds with
 | [.v (.one (.int .i64 x))] => k [.v (.one (.ints .u8 32 (sC (IntKind.u64.wrap x).toNat)))]
 | _ => none
theorem beq_dec (a : Nat) : Nat.beq a 0 = decide (a = 0) := by cases a <;> rfl
theorem cC30 : Contract Tryz.prog 42 { sig := S42, impl := C42 } := by
 refine Contract.refine fun R ds k r h => ⟨_, c42, ?_⟩
 unfold C42 at h
 unfold I42
 split at h
 ·
  simp only [sN_sC, addN_adC, vS_vC]; exact h
 ·
  cases h
theorem cC32 : Contract Tryz.prog 79 { sig := S79, impl := C79 } := by
 refine Contract.refine fun R ds k r h => ⟨_, c79, ?_⟩
 unfold C79 at h
 unfold I79
 split at h
 ·
  simp only [sN_sC, difN_C, vS_vC]; exact h
 ·
  cases h
theorem cC33 : Contract Tryz.prog 80 { sig := S80, impl := C80 } := by
 refine Contract.refine fun R ds k r h => ⟨_, c80, ?_⟩
 unfold C80 at h
 unfold I80
 split at h
 ·
  simp only [sN_sC, mulN_mlC, vS_vC]; exact h
 ·
  cases h
theorem cC42 : Contract Tryz.prog 74 { sig := S74, impl := C74 } := by
 refine Contract.refine fun R ds k r h => ⟨_, c74, ?_⟩
 unfold C74 at h
 unfold I74
 split at h
 ·
  simp only [sN_sC, mulN_mlC, addN_adC, vS_vC]; exact h
 ·
  cases h
theorem cC71 : Contract Tryz.prog 111 { sig := S111, impl := C111 } := by
 refine Contract.refine fun R ds k r h => ⟨_, c111, ?_⟩
 unfold C111 at h
 unfold I111
 split at h
 ·
  simp only [sN_sC, negN_ngC, vS_vC]; exact h
 ·
  cases h
theorem cC88 : Contract Tryz.prog 154 { sig := S154, impl := C154 } := by
 refine Contract.refine fun R ds k r h => ⟨_, c154, ?_⟩
 unfold C154 at h
 unfold I154
 split at h
 ·
  simp only [vS_vC, ← beq_dec]; exact h
 ·
  cases h
theorem cC31 : Contract Tryz.prog 78 { sig := S78, impl := C78 } := by
 refine Contract.refine fun R ds k r h => ⟨_, c78, ?_⟩
 unfold C78 at h
 unfold I78
 split at h
 ·
  simp only [sN_sC, invN_inC, vS_vC, ← beq_dec]; exact h
 ·
  cases h
theorem cC40 : Contract Tryz.prog 68 { sig := S68, impl := C68 } := by
 refine Contract.refine fun R ds k r h => ⟨_, c68, ?_⟩
 unfold C68 at h
 unfold I68
 split at h
 ·
  simp only [sN_sC, plN]; exact h
 ·
  cases h
def hzC (x : List Int) : Nat → Nat → Bool
 | 0, _ => false
 | j + 1, i => bif Nat.beq (vC (elF x i)) 0 then true else hzC x j (i + 1)
theorem hzC_eq (x : List Int) : ∀ j i, (fz x j i).isSome = hzC x j i
 | 0, _ => rfl
 | j + 1, i => by
  unfold fz hzC
  rw [vS_vC, beq_dec]
  by_cases h : vC (elF x i) = 0
  ·
   rw [if_pos h, decide_eq_true h]; rfl
  ·
   rw [if_neg h, decide_eq_false h]; exact hzC_eq x j (i + 1)
def C130 : (R : Type) → List DV → (List DV → Option R) → Option R := fun _ ds k => match ds with
 | [.lst (.one .u8) 32 x] => bif okF x && !(hzC x (x.length / 32) 0) then k [.lst (.one .u8) 32 (headG (fun i => sC (inC (vC (elF x i)))) (x.length / 32)), .v (.one (.int .i64 0)), .v (.one (.int .i64 0))] else none
 | _ => none
theorem cC77 : Contract Tryz.prog 130 { sig := S130, impl := C130 } := by
 refine Contract.refine fun R ds k r h => ⟨_, c130b, ?_⟩
 unfold C130 at h
 unfold I130b
 split at h
 ·
  rename_i x
  cases hc : okF x && !(hzC x (x.length / 32) 0) with
  | false => rw [hc] at h; cases h
  | true =>
   rw [hc, cond_true] at h
   rw [Bool.and_eq_true, Bool.not_eq_true'] at hc
   have e : hasZ x = false := by unfold hasZ; rw [hzC_eq]; exact hc.2
   have e2 : invS x = headG (fun i => sC (inC (vC (elF x i)))) (x.length / 32) := by
    unfold invS; simp only [sN_sC, invN_inC, vS_vC]
   show (bif okF x then (bif hasZ x then _ else _) else none) = some r
   rw [hc.1, e, e2]; exact h
 ·
  cases h
def dtC (x y : List Int) : Nat → Nat
 | 0 => 0
 | i + 1 => adC (dtC x y i) (mlC (vC (elF x i)) (vC (elF y i)))
theorem dotF_dtC (x y : List Int) : ∀ i, dotF x y i = dtC x y i
 | 0 => rfl
 | i + 1 => by unfold dotF dtC; rw [addN_adC, mulN_mlC, vS_vC, vS_vC, dotF_dtC x y i]
def C153 : (R : Type) → List DV → (List DV → Option R) → Option R := fun _ ds k => match ds with
 | [.lst (.one .u8) 32 x, .lst (.one .u8) 32 y] => bif okF x && okF y then (bif Nat.beq (x.length / 32) (y.length / 32) then k [.v (.one (.ints .u8 32 (sC (dtC x y (x.length / 32))))), .v (.one (.int .i64 0))] else none) else none
 | _ => none
theorem cC76 : Contract Tryz.prog 153 { sig := S153, impl := C153 } := by
 refine Contract.refine fun R ds k r h => ⟨_, c153, ?_⟩
 unfold C153 at h
 unfold I153
 split at h
 ·
  rename_i x y
  cases hc : okF x && okF y with
  | false => rw [hc] at h; cases h
  | true =>
   rw [hc, cond_true] at h
   cases he : Nat.beq (x.length / 32) (y.length / 32) with
   | false => rw [he] at h; cases h
   | true =>
    rw [he, cond_true] at h
    simp only [hc, he, cond_true, dotF_dtC, sN_sC]; exact h
 ·
  cases h
def GC : Ctx := [(153, { sig := S153, impl := C153 }), (130, { sig := S130, impl := C130 }), (42, { sig := S42, impl := C42 }), (78, { sig := S78, impl := C78 }), (79, { sig := S79, impl := C79 }), (80, { sig := S80, impl := C80 }), (68, { sig := S68, impl := C68 }), (74, { sig := S74, impl := C74 }), (111, { sig := S111, impl := C111 }), (154, { sig := S154, impl := C154 })]
theorem GC_ok : CtxOk Tryz.prog GC := ctxOk_cons ok153 rfl cC76 (ctxOk_cons ok130 rfl cC77 (ctxOk_cons ok42 rfl cC30 (ctxOk_cons ok78 rfl cC31 (ctxOk_cons ok79 rfl cC32 (ctxOk_cons ok80 rfl cC33 (ctxOk_cons ok68 rfl cC40 (ctxOk_cons ok74 rfl cC42 (ctxOk_cons ok111 rfl cC71 (ctxOk_cons ok154 rfl cC88 ctxOk_nil)))))))))
def AE13 : Env := { Θ := Th, Γ := GC, K := K13, ν := [], fuel := 64, lp := [] }
theorem al13 : Contract Tryz.prog 13 { sig := S13, impl := fun _ ds k => call AE13 S13 4 B13 R13 ds k } :=
 call_contract (E := AE13) thOk GC_ok mixed ok13.look ok13.body ok13.n ok13.rv ok13.name rfl (by decide) (loopsOk_of (l := []) (by kernel_rfl) trivial)
def GA13 : Ctx := (13, { sig := S13, impl := fun _ ds k => call AE13 S13 4 B13 R13 ds k }) :: GC
theorem GA12_ok : CtxOk Tryz.prog GA13 := ctxOk_cons ok13 rfl al13 GC_ok
def AE67 : Env := { Θ := Th, Γ := GA13, K := K67, ν := [], fuel := 64, lp := [] }
theorem al67 : Contract Tryz.prog 67 { sig := S67, impl := fun _ ds k => call AE67 S67 9 B67 R67 ds k } :=
 call_contract (E := AE67) thOk GA12_ok mixed ok67.look ok67.body ok67.n ok67.rv ok67.name rfl (by decide) (loopsOk_of (l := []) (by kernel_rfl) trivial)
def GA67 : Ctx := (67, { sig := S67, impl := fun _ ds k => call AE67 S67 9 B67 R67 ds k }) :: GA13
theorem GA43_ok : CtxOk Tryz.prog GA67 := ctxOk_cons ok67 rfl al67 GA12_ok
def AE110 : Env := { Θ := Th, Γ := GA67, K := K110, ν := [], fuel := 64, lp := [] }
theorem al110 : Contract Tryz.prog 110 { sig := S110, impl := fun _ ds k => call AE110 S110 9 B110 R110 ds k } :=
 call_contract (E := AE110) thOk GA43_ok mixed ok110.look ok110.body ok110.n ok110.rv ok110.name rfl (by decide) (loopsOk_of (l := []) (by kernel_rfl) trivial)
def GA110 : Ctx := (110, { sig := S110, impl := fun _ ds k => call AE110 S110 9 B110 R110 ds k }) :: GA67
theorem GA70_ok : CtxOk Tryz.prog GA110 := ctxOk_cons ok110 rfl al110 GA43_ok
def AE187 : Env := { Θ := Th, Γ := GA110, K := K187, ν := [], fuel := 64, lp := [] }
theorem al187 : Contract Tryz.prog 187 { sig := S187, impl := fun _ ds k => call AE187 S187 6 B187 R187 ds k } :=
 call_contract (E := AE187) thOk GA70_ok mixed ok187.look ok187.body ok187.n ok187.rv ok187.name rfl (by decide) (loopsOk_of (l := []) (by kernel_rfl) trivial)
def GA187 : Ctx := (187, { sig := S187, impl := fun _ ds k => call AE187 S187 6 B187 R187 ds k }) :: GA110
theorem GA108_ok : CtxOk Tryz.prog GA187 := ctxOk_cons ok187 rfl al187 GA70_ok
def AE166 : Env := { Θ := Th, Γ := GA187, K := K166, ν := [], fuel := 64, lp := [] }
theorem al166 : Contract Tryz.prog 166 { sig := S166, impl := fun _ ds k => call AE166 S166 17 B166 R166 ds k } :=
 call_contract (E := AE166) thOk GA108_ok mixed ok166.look ok166.body ok166.n ok166.rv ok166.name rfl (by decide) (loopsOk_of (l := []) (by kernel_rfl) trivial)
def GA166 : Ctx := (166, { sig := S166, impl := fun _ ds k => call AE166 S166 17 B166 R166 ds k }) :: GA187
theorem GA97_ok : CtxOk Tryz.prog GA166 := ctxOk_cons ok166 rfl al166 GA108_ok
def AE160 : Env := { Θ := Th, Γ := GA166, K := K160, ν := [(0, ⟨[], []⟩), (2, ⟨[], []⟩)], fuel := 64, lp := [] }
theorem al160 : Contract Tryz.prog 160 { sig := { ps := [], rs := [] }, impl := fun _ ds k => callN AE160 3 49 B160 R160 ds k, kind := .inl 3 } :=
 inl_contract (E := AE160) thOk GA97_ok mixed ok160 (loopsOk_of (l := [(0, B160_0), (2, B160_2)]) (by kernel_rfl) (allOk_skip rfl (allOk_skip rfl trivial)))
def GA160 : Ctx := (160, { sig := { ps := [], rs := [] }, impl := fun _ ds k => callN AE160 3 49 B160 R160 ds k, kind := .inl 3 }) :: GA166
theorem GA91_ok : CtxOk Tryz.prog GA160 := ctxOk_cons ok160 rfl al160 GA97_ok
def AE170 : Env := { Θ := Th, Γ := GA160, K := K170, ν := [], fuel := 64, lp := [] }
theorem al170 : Contract Tryz.prog 170 { sig := S170, impl := fun _ ds k => call AE170 S170 25 B170 R170 ds k } :=
 call_contract (E := AE170) thOk GA91_ok mixed ok170.look ok170.body ok170.n ok170.rv ok170.name rfl (by decide) (loopsOk_of (l := []) (by kernel_rfl) trivial)
def GA170 : Ctx := (170, { sig := S170, impl := fun _ ds k => call AE170 S170 25 B170 R170 ds k }) :: GA160
theorem GA101_ok : CtxOk Tryz.prog GA170 := ctxOk_cons ok170 rfl al170 GA91_ok
def AE118 : Env := { Θ := Th, Γ := GA170, K := K118, ν := [], fuel := 64, lp := [] }
theorem al118 : Contract Tryz.prog 118 { sig := S118, impl := fun _ ds k => call AE118 S118 8 B118 R118 ds k } :=
 call_contract (E := AE118) thOk GA101_ok mixed ok118.look ok118.body ok118.n ok118.rv ok118.name rfl (by decide) (loopsOk_of (l := []) (by kernel_rfl) trivial)
def GA118 : Ctx := (118, { sig := S118, impl := fun _ ds k => call AE118 S118 8 B118 R118 ds k }) :: GA170
theorem GA75_ok : CtxOk Tryz.prog GA118 := ctxOk_cons ok118 rfl al118 GA101_ok
def AE117 : Env := { Θ := Th, Γ := GA118, K := K117, ν := [(0, ⟨[], []⟩)], fuel := 64, lp := [] }
theorem al117 : Contract Tryz.prog 117 { sig := { ps := [], rs := [] }, impl := fun _ ds k => callN AE117 4 134 B117 R117 ds k, kind := .inl 4 } :=
 inl_contract (E := AE117) thOk GA75_ok mixed ok117 (loopsOk_of (l := [(0, B117_0)]) (by kernel_rfl) (allOk_skip rfl trivial))
def GA117 : Ctx := (117, { sig := { ps := [], rs := [] }, impl := fun _ ds k => callN AE117 4 134 B117 R117 ds k, kind := .inl 4 }) :: GA118
theorem GA74_ok : CtxOk Tryz.prog GA117 := ctxOk_cons ok117 rfl al117 GA75_ok
def AE43 : Env := { Θ := Th, Γ := GA117, K := K43, ν := [], fuel := 64, lp := [] }
theorem al43 : Contract Tryz.prog 43 { sig := { ps := [], rs := [] }, impl := fun _ ds k => callN AE43 1 11 B43 R43 ds k, kind := .inl 1 } :=
 inl_contract (E := AE43) thOk GA74_ok mixed ok43 (loopsOk_of (l := []) (by kernel_rfl) trivial)
def GA43 : Ctx := (43, { sig := { ps := [], rs := [] }, impl := fun _ ds k => callN AE43 1 11 B43 R43 ds k, kind := .inl 1 }) :: GA117
theorem GA46_ok : CtxOk Tryz.prog GA43 := ctxOk_cons ok43 rfl al43 GA74_ok
def AE70 : Env := { Θ := Th, Γ := GA43, K := K70, ν := [(0, ⟨[], []⟩)], fuel := 64, lp := [] }
theorem al70 : Contract Tryz.prog 70 { sig := S70, impl := fun _ ds k => call AE70 S70 29 B70 R70 ds k } :=
 call_contract (E := AE70) thOk GA46_ok mixed ok70.look ok70.body ok70.n ok70.rv ok70.name rfl (by decide) (loopsOk_of (l := [(0, B70_0)]) (by kernel_rfl) (allOk_skip rfl trivial))
def GA70 : Ctx := (70, { sig := S70, impl := fun _ ds k => call AE70 S70 29 B70 R70 ds k }) :: GA43
theorem GA39_ok : CtxOk Tryz.prog GA70 := ctxOk_cons ok70 rfl al70 GA46_ok
def AE22 : Env := { Θ := Th, Γ := GA70, K := K22, ν := [(0, ⟨[], []⟩)], fuel := 64, lp := [] }
theorem al22 : Contract Tryz.prog 22 { sig := S22, impl := fun _ ds k => call AE22 S22 22 B22 R22 ds k } :=
 call_contract (E := AE22) thOk GA39_ok mixed ok22.look ok22.body ok22.n ok22.rv ok22.name rfl (by decide) (loopsOk_of (l := [(0, B22_0)]) (by kernel_rfl) (allOk_skip rfl trivial))
def GA22 : Ctx := (22, { sig := S22, impl := fun _ ds k => call AE22 S22 22 B22 R22 ds k }) :: GA70
theorem GA19_ok : CtxOk Tryz.prog GA22 := ctxOk_cons ok22 rfl al22 GA39_ok
def AE102 : Env := { Θ := Th, Γ := GA22, K := K102, ν := [(0, ⟨[], []⟩)], fuel := 64, lp := [] }
theorem al102 : Contract Tryz.prog 102 { sig := S102, impl := fun _ ds k => call AE102 S102 31 B102 R102 ds k } :=
 call_contract (E := AE102) thOk GA19_ok mixed ok102.look ok102.body ok102.n ok102.rv ok102.name rfl (by decide) (loopsOk_of (l := [(0, B102_0)]) (by kernel_rfl) (allOk_skip rfl trivial))
def GA102 : Ctx := (102, { sig := S102, impl := fun _ ds k => call AE102 S102 31 B102 R102 ds k }) :: GA22
theorem GA49_ok : CtxOk Tryz.prog GA102 := ctxOk_cons ok102 rfl al102 GA19_ok
def AE19 : Env := { Θ := Th, Γ := GA102, K := K19, ν := [(0, ⟨[], []⟩)], fuel := 64, lp := [] }
theorem al19 : Contract Tryz.prog 19 { sig := S19, impl := fun _ ds k => call AE19 S19 32 B19 R19 ds k } :=
 call_contract (E := AE19) thOk GA49_ok mixed ok19.look ok19.body ok19.n ok19.rv ok19.name rfl (by decide) (loopsOk_of (l := [(0, B19_0)]) (by kernel_rfl) (allOk_skip rfl trivial))
def GA19 : Ctx := (19, { sig := S19, impl := fun _ ds k => call AE19 S19 32 B19 R19 ds k }) :: GA102
theorem GA16_ok : CtxOk Tryz.prog GA19 := ctxOk_cons ok19 rfl al19 GA49_ok
def AE26 : Env := { Θ := Th, Γ := GA19, K := K26, ν := [(0, ⟨[], []⟩), (2, ⟨[], []⟩), (4, ⟨[], []⟩), (6, ⟨[], []⟩), (8, ⟨[], []⟩), (10, ⟨[], []⟩)], fuel := 64, lp := [] }
theorem al26 : Contract Tryz.prog 26 { sig := S26, impl := fun _ ds k => call AE26 S26 161 B26 R26 ds k } :=
 call_contract (E := AE26) thOk GA16_ok mixed ok26.look ok26.body ok26.n ok26.rv ok26.name rfl (by decide) (loopsOk_of (l := [(0, B26_0), (2, B26_2), (4, B26_4), (6, B26_6), (8, B26_8), (10, B26_10)]) (by kernel_rfl) (allOk_skip rfl (allOk_skip rfl (allOk_skip rfl (allOk_skip rfl (allOk_skip rfl (allOk_skip rfl trivial)))))))
def GA26 : Ctx := (26, { sig := S26, impl := fun _ ds k => call AE26 S26 161 B26 R26 ds k }) :: GA19
theorem GA9_ok : CtxOk Tryz.prog GA26 := ctxOk_cons ok26 rfl al26 GA16_ok
def AE105 : Env := { Θ := Th, Γ := GA26, K := K105, ν := [(0, ⟨[], []⟩)], fuel := 64, lp := [] }
theorem al105 : Contract Tryz.prog 105 { sig := S105, impl := fun _ ds k => call AE105 S105 38 B105 R105 ds k } :=
 call_contract (E := AE105) thOk GA9_ok mixed ok105.look ok105.body ok105.n ok105.rv ok105.name rfl (by decide) (loopsOk_of (l := [(0, B105_0)]) (by kernel_rfl) (allOk_skip rfl trivial))
def GA105 : Ctx := (105, { sig := S105, impl := fun _ ds k => call AE105 S105 38 B105 R105 ds k }) :: GA26
theorem GA47_ok : CtxOk Tryz.prog GA105 := ctxOk_cons ok105 rfl al105 GA9_ok
def AE76 : Env := { Θ := Th, Γ := GA105, K := K76, ν := [(0, ⟨[], []⟩), (2, ⟨[], []⟩), (4, ⟨[], []⟩)], fuel := 64, lp := [] }
theorem al76 : Contract Tryz.prog 76 { sig := S76, impl := fun _ ds k => call AE76 S76 95 B76 R76 ds k } :=
 call_contract (E := AE76) thOk GA47_ok mixed ok76.look ok76.body ok76.n ok76.rv ok76.name rfl (by decide) (loopsOk_of (l := [(0, B76_0), (2, B76_2), (4, B76_4)]) (by kernel_rfl) (allOk_skip rfl (allOk_skip rfl (allOk_skip rfl trivial))))
def GA76 : Ctx := (76, { sig := S76, impl := fun _ ds k => call AE76 S76 95 B76 R76 ds k }) :: GA105
theorem GA50_ok : CtxOk Tryz.prog GA76 := ctxOk_cons ok76 rfl al76 GA47_ok
def AE103 : Env := { Θ := Th, Γ := GA76, K := K103, ν := [(0, ⟨[], []⟩)], fuel := 64, lp := [] }
theorem al103 : Contract Tryz.prog 103 { sig := S103, impl := fun _ ds k => call AE103 S103 37 B103 R103 ds k } :=
 call_contract (E := AE103) thOk GA50_ok mixed ok103.look ok103.body ok103.n ok103.rv ok103.name rfl (by decide) (loopsOk_of (l := [(0, B103_0)]) (by kernel_rfl) (allOk_skip rfl trivial))
def GA103 : Ctx := (103, { sig := S103, impl := fun _ ds k => call AE103 S103 37 B103 R103 ds k }) :: GA76
theorem GA48_ok : CtxOk Tryz.prog GA103 := ctxOk_cons ok103 rfl al103 GA50_ok
def AE40 : Env := { Θ := Th, Γ := GA103, K := K40, ν := [], fuel := 64, lp := [] }
theorem al40 : Contract Tryz.prog 40 { sig := S40, impl := fun _ ds k => call AE40 S40 28 B40 R40 ds k } :=
 call_contract (E := AE40) thOk GA48_ok mixed ok40.look ok40.body ok40.n ok40.rv ok40.name rfl (by decide) (loopsOk_of (l := []) (by kernel_rfl) trivial)
def GA40 : Ctx := (40, { sig := S40, impl := fun _ ds k => call AE40 S40 28 B40 R40 ds k }) :: GA103
theorem GA44_ok : CtxOk Tryz.prog GA40 := ctxOk_cons ok40 rfl al40 GA48_ok
def AE33 : Env := { Θ := Th, Γ := GA40, K := K33, ν := [], fuel := 64, lp := [] }
theorem al33 : Contract Tryz.prog 33 { sig := S33, impl := fun _ ds k => call AE33 S33 29 B33 R33 ds k } :=
 call_contract (E := AE33) thOk GA44_ok mixed ok33.look ok33.body ok33.n ok33.rv ok33.name rfl (by decide) (loopsOk_of (l := []) (by kernel_rfl) trivial)
def GA33 : Ctx := (33, { sig := S33, impl := fun _ ds k => call AE33 S33 29 B33 R33 ds k }) :: GA40
theorem GA24_ok : CtxOk Tryz.prog GA33 := ctxOk_cons ok33 rfl al33 GA44_ok
def AE155 : Env := { Θ := Th, Γ := GA33, K := K155, ν := [(0, ⟨[], []⟩), (2, ⟨[], []⟩), (4, ⟨[], []⟩)], fuel := 64, lp := [] }
theorem al155 : Contract Tryz.prog 155 { sig := { ps := [], rs := [] }, impl := fun _ ds k => callN AE155 3 95 B155 R155 ds k, kind := .inl 3 } :=
 inl_contract (E := AE155) thOk GA24_ok mixed ok155 (loopsOk_of (l := [(0, B155_0), (2, B155_2), (4, B155_4)]) (by kernel_rfl) (allOk_skip rfl (allOk_skip rfl (allOk_skip rfl trivial))))
def GA155 : Ctx := (155, { sig := { ps := [], rs := [] }, impl := fun _ ds k => callN AE155 3 95 B155 R155 ds k, kind := .inl 3 }) :: GA33
theorem GA89_ok : CtxOk Tryz.prog GA155 := ctxOk_cons ok155 rfl al155 GA24_ok
def AE112 : Env := { Θ := Th, Γ := GA155, K := K112, ν := [(0, ⟨[], []⟩), (2, ⟨[], []⟩), (4, ⟨[], []⟩), (6, ⟨[], []⟩)], fuel := 64, lp := [] }
theorem al112 : Contract Tryz.prog 112 { sig := { ps := [], rs := [] }, impl := fun _ ds k => callN AE112 2 100 B112 R112 ds k, kind := .inl 2 } :=
 inl_contract (E := AE112) thOk GA89_ok mixed ok112 (loopsOk_of (l := [(0, B112_0), (2, B112_2), (4, B112_4), (6, B112_6)]) (by kernel_rfl) (allOk_skip rfl (allOk_skip rfl (allOk_skip rfl (allOk_skip rfl trivial)))))
def GA112 : Ctx := (112, { sig := { ps := [], rs := [] }, impl := fun _ ds k => callN AE112 2 100 B112 R112 ds k, kind := .inl 2 }) :: GA155
theorem GA72_ok : CtxOk Tryz.prog GA112 := ctxOk_cons ok112 rfl al112 GA89_ok
def AE156 : Env := { Θ := Th, Γ := GA112, K := K156, ν := [], fuel := 64, lp := [] }
theorem al156 : Contract Tryz.prog 156 { sig := S156, impl := fun _ ds k => call AE156 S156 8 B156 R156 ds k } :=
 call_contract (E := AE156) thOk GA72_ok mixed ok156.look ok156.body ok156.n ok156.rv ok156.name rfl (by decide) (loopsOk_of (l := []) (by kernel_rfl) trivial)
def GA156 : Ctx := (156, { sig := S156, impl := fun _ ds k => call AE156 S156 8 B156 R156 ds k }) :: GA112
theorem GA90_ok : CtxOk Tryz.prog GA156 := ctxOk_cons ok156 rfl al156 GA72_ok
def AE113 : Env := { Θ := Th, Γ := GA156, K := K113, ν := [(0, ⟨[], []⟩), (2, ⟨[], []⟩), (4, ⟨[], []⟩)], fuel := 64, lp := [] }
theorem al113 : Contract Tryz.prog 113 { sig := S113, impl := fun _ ds k => call AE113 S113 84 B113 R113 ds k } :=
 call_contract (E := AE113) thOk GA90_ok mixed ok113.look ok113.body ok113.n ok113.rv ok113.name rfl (by decide) (loopsOk_of (l := [(0, B113_0), (2, B113_2), (4, B113_4)]) (by kernel_rfl) (allOk_skip rfl (allOk_skip rfl (allOk_skip rfl trivial))))
def GA113 : Ctx := (113, { sig := S113, impl := fun _ ds k => call AE113 S113 84 B113 R113 ds k }) :: GA156
theorem GA73_ok : CtxOk Tryz.prog GA113 := ctxOk_cons ok113 rfl al113 GA90_ok
def AE41 : Env := { Θ := Th, Γ := GA113, K := K41, ν := [(0, ⟨[], []⟩), (2, ⟨[], []⟩)], fuel := 64, lp := [] }
theorem al41 : Contract Tryz.prog 41 { sig := S41, impl := fun _ ds k => call AE41 S41 106 B41 R41 ds k } :=
 call_contract (E := AE41) thOk GA73_ok mixed ok41.look ok41.body ok41.n ok41.rv ok41.name rfl (by decide) (loopsOk_of (l := [(0, B41_0), (2, B41_2)]) (by kernel_rfl) (allOk_skip rfl (allOk_skip rfl trivial)))
def GA41 : Ctx := (41, { sig := S41, impl := fun _ ds k => call AE41 S41 106 B41 R41 ds k }) :: GA113
theorem GA45_ok : CtxOk Tryz.prog GA41 := ctxOk_cons ok41 rfl al41 GA73_ok
def AE8 : Env := { Θ := Th, Γ := GA41, K := K8, ν := [(0, ⟨[], []⟩)], fuel := 64, lp := [] }
theorem al8 : Contract Tryz.prog 8 { sig := S8, impl := fun _ ds k => call AE8 S8 72 B8 R8 ds k } :=
 call_contract (E := AE8) thOk GA45_ok mixed ok8.look ok8.body ok8.n ok8.rv ok8.name rfl (by decide) (loopsOk_of (l := [(0, B8_0)]) (by kernel_rfl) (allOk_skip rfl trivial))
def GA8 : Ctx := (8, { sig := S8, impl := fun _ ds k => call AE8 S8 72 B8 R8 ds k }) :: GA41
theorem GA22_ok : CtxOk Tryz.prog GA8 := ctxOk_cons ok8 rfl al8 GA45_ok
def AE15 : Env := { Θ := Th, Γ := GA8, K := K15, ν := [], fuel := 64, lp := [] }
theorem al15 : Contract Tryz.prog 15 { sig := S15, impl := fun _ ds k => call AE15 S15 88 B15 R15 ds k } :=
 call_contract (E := AE15) thOk GA22_ok mixed ok15.look ok15.body ok15.n ok15.rv ok15.name rfl (by decide) (loopsOk_of (l := []) (by kernel_rfl) trivial)
theorem alive_eq {R : Type} (k : List DV → Option R) : call AE15 S15 88 B15 R15 [] k = k [.v (.one (.bool true))] := by kernel_rfl
def I15 : (R : Type) → List DV → (List DV → Option R) → Option R := fun _ ds k => match ds with
 | [] => k [.v (.one (.bool true))]
 | _ => none
theorem c15 : Contract Tryz.prog 15 { sig := S15, impl := I15 } := by
 refine Contract.refine fun R ds k r h => ⟨_, al15, ?_⟩
 unfold I15 at h
 split at h
 ·
  rw [alive_eq]; exact h
 ·
  cases h
set_option linter.unusedVariables false
theorem horN_q (xs : List Int) (v : Nat) : ∀ (i r : Nat), q (horN xs v i r) = q r * pw (q v) i + ev i (fun j => q (numF xs j)) (q v)
 | 0, r => by
  have e : ev 0 (fun j => q (numF xs j)) (q v) = 0 := rfl
  have e2 : pw (q v) 0 = 1 := rfl
  rw [e, e2]; show q r = _; grind
 | i + 1, r => by
  have e : horN xs v (i + 1) r = horN xs v i (addN (mulN r v) (vS (elF xs i))) := rfl
  have e2 : pw (q v) (i + 1) = q v * pw (q v) i := rfl
  rw [e, horN_q xs v i, q_add, q_mul, ev_snoc, e2, show vS (elF xs i) = numF xs i from rfl]; grind
theorem evN_q (xs : List Int) (v : Nat) : q (evN xs v) = ev (xs.length / 32) (fun j => q (numF xs j)) (q v) := by
 unfold evN
 rw [horN_q, q_zero]; grind
theorem pxN_q {X : Nat → Nat} (hX : LtE X) (i v : Nat) : ∀ (j k a : Nat), q (pxN X i v j k a) = q a * prx (fun i => q (X i)) i (q v) j k
 | 0, k, a => by
  show q a = q a * 1
  grind
 | j + 1, k, a => by
  have e : pxN X i v (j + 1) k a = pxN X i v j (k + 1) (if k = i then a else mulN a (difN v (X k))) := rfl
  have e2 : prx (fun i => q (X i)) i (q v) (j + 1) k = (if k = i then 1 else q v - q (X k)) * prx (fun i => q (X i)) i (q v) j (k + 1) := rfl
  rw [e, e2, pxN_q hX i v j (k + 1)]
  by_cases hk : k = i
  ·
   rw [if_pos hk, if_pos hk]; grind
  ·
   rw [if_neg hk, if_neg hk, q_mul, q_dif _ (hX k)]; grind
theorem basG_q {X : Nat → Nat} (hX : LtE X) (v n i : Nat) : q (basG X v n i) = prx (fun i => q (X i)) i (q v) n 0 * qi (prx (fun i => q (X i)) i (q (X i)) n 0) := by
 have h1 : pxN X i (X i) n 0 1 < ell := pxN_lt _ _ _ one_lt_ell
 unfold basG
 rw [q_mul, q_inv h1, pxN_q hX, pxN_q hX, q_one]; grind
theorem val_coefs {X Y : Nat → Nat} (hX : LtE X) (hY : LtE Y) (v n : Nat) : ∀ m, m ≤ n → ev n (fun t => q (iterF (coefSt X Y n) m 0 (fun _ => 0) t)) (q v) = q (valG X Y v n m)
 | 0, _ => by
  show ev n (fun t => q 0) (q v) = q 0
  rw [q_zero, ev_zero]
 | m + 1, h => by
  rw [iterF_last, Nat.zero_add, coefSt_ev hX hY (by omega) (iterF_inv (fun k g h => coefSt_lt h) _ _ _ ltE_zero), val_coefs hX hY v n m (by omega)]
  have e : valG X Y v n (m + 1) = addN (valG X Y v n m) (mulN (basG X v n m) (Y m)) := rfl
  rw [e, q_add, q_mul, basG_q hX]; grind
theorem valG_lt (X Y : Nat → Nat) (v n : Nat) : ∀ m, valG X Y v n m < ell
 | 0 => ell_pos
 | m + 1 => addN_lt _ _
theorem idsS_succ (s : List Int) (i : Nat) : idsS s (i + 1) = idsS s i ++ [shId s i] := rfl
def secW (f Y : Nat → Nat) : Nat → Nat
 | 0 => 0
 | i + 1 => addN (mulN (f i) (Y i)) (secW f Y i)
theorem secW_lt (f Y : Nat → Nat) : ∀ n, secW f Y n < ell
 | 0 => ell_pos
 | n + 1 => addN_lt _ _
theorem secW_val (X Y : Nat → Nat) (v n : Nat) : ∀ m, secW (basG X v n) Y m = valG X Y v n m
 | 0 => rfl
 | m + 1 => by
  show addN (mulN (basG X v n m) (Y m)) (secW (basG X v n) Y m) = addN (valG X Y v n m) (mulN (basG X v n m) (Y m))
  rw [secW_val X Y v n m]
  apply q_inj (addN_lt _ _) (addN_lt _ _)
  rw [q_add, q_add]; grind
def GP0 : Ctx := [(69, { sig := S69, impl := I68 })]
theorem GP0_ok : CtxOk Tryz.prog GP0 := ctxOk_cons ok69 rfl c69 ctxOk_nil
set_option linter.unusedVariables false
def I107 : (R : Type) → List DV → (List DV → Option R) → Option R := fun _ ds k => match ds with
 | [.v (.one (.int .i64 t))] => k [.v (.one (.int .i64 (thrE t)))]
 | _ => none
set_option linter.unusedVariables false
set_option linter.unusedVariables false
def f24_0_sh : Shp := ⟨26, 2, [(0, .one (.fix (.own 0))), (1, .one (.fix (.own 1))), (5, .one (.int .i64))], [(0, .view (.mix ck78) 33), (1, .view (.mix ck78) 33)]⟩
def f24_0_ex1 : Shp := ⟨26, 2, [(4, .one .bool), (25, .one .bool), (14, .one .bool), (0, .one (.fix (.own 0))), (1, .one (.fix (.own 1))), (5, .one (.int .i64))], [(0, .view (.mix ck78) 33), (1, .view (.mix ck78) 33)]⟩
def f24_0_ex2 : Shp := ⟨26, 2, [(14, .one .bool), (0, .one (.fix (.own 0))), (1, .one (.fix (.own 1))), (5, .one (.int .i64))], [(0, .view (.mix ck78) 33), (1, .view (.mix ck78) 33)]⟩
def f24_0_st {R : Type} (N : Nat) (self : Int → List Int → List Int → Option R) (k1 : Bool → Bool → Bool → Int → List Int → List Int → Option R) (k2 : Bool → Int → List Int → List Int → Option R) (x1 : Int) (x2 x3 : List Int) : Option R :=
 bif decide (x1 < nI (rowLen 33 x2)) then
 bif decide (0 ≤ x1) && decide (x1 < nI (rowLen 33 x2)) then
 bif decide (0 ≤ x1) && decide (x1 < nI (rowLen 33 x3)) then
 bif !(x2.getD (x1.toNat * 33 + 0) 0 == x3.getD (x1.toNat * 33 + 0) 0 && (decide (List.take 32 (List.drop (x1.toNat * 33 + (0 + 1)) x2) = List.take 32 (List.drop (x1.toNat * 33 + (0 + 1)) x3)) && true)) then k1 false (!(x2.getD (x1.toNat * 33 + 0) 0 == x3.getD (x1.toNat * 33 + 0) 0 && (decide (List.take 32 (List.drop (x1.toNat * 33 + (0 + 1)) x2) = List.take 32 (List.drop (x1.toNat * 33 + (0 + 1)) x3)) && true))) (decide (x1 < nI (rowLen 33 x2))) x1 x2 x3
 else
 let v0 := IntKind.i64.wrap (x1 + 1);
 self v0 x2 x3
 else none
 else none
else k2 (decide (x1 < nI (rowLen 33 x2))) x1 x2 x3
def f24_0_lp {R : Type} (N : Nat) (k1 : Bool → Bool → Bool → Int → List Int → List Int → Option R) (k2 : Bool → Int → List Int → List Int → Option R) : Nat → Int → List Int → List Int → Option R
 | 0, _, _, _ => none
 | n + 1, x1, x2, x3 => f24_0_st N (f24_0_lp N k1 k2 n) k1 k2 x1 x2 x3
def f24_0_F (N : Nat) : (R : Type) → List Leaf → (X → AS → Option R) → Option R := fun _ ls K => match ls with
 | [.i x1, .l x2, .l x3] => f24_0_lp N (fun y1 y2 y3 y4 y5 y6 => K (.ret) (fill f24_0_ex1 [.b y1, .b y2, .b y3, .i y4, .l y5, .l y6])) (fun y1 y2 y3 y4 => K .normal (fill f24_0_ex2 [.b y1, .i y2, .l y3, .l y4])) N x1 x2 x3
 | _ => none
def f24_raw {R : Type} (N : Nat) (a b : List Int) (k : List DV → Option R) : Option R :=
 bif nI (rowLen 33 a) != nI (rowLen 33 b) then k [.v (.one (.bool false))] else f24_0_lp N (fun w0_1 w0_2 w0_3 w0_4 w0_5 w0_6 => k [.v (.one (.bool w0_1))]) (fun w1_1 w1_2 w1_3 w1_4 => k [.v (.one (.bool true))]) N 0 a b
def E24 (N : Nat) : Env := { Θ := Th, Γ := [], K := K24, ν := N24, fuel := 0, lp := [(0, mkL N24_0 f24_0_sh (f24_0_F N))] }
theorem f24_0_st_eq {R : Type} (N : Nat) (K : X → AS → Option R) (n : Nat) (x1 : Int) (x2 x3 : List Int) : roundsOf (E24 N) N24_0 0 B24_0 K (n + 1) (fill f24_0_sh [.i x1, .l x2, .l x3]) = f24_0_st N (fun x1 x2 x3 => roundsOf (E24 N) N24_0 0 B24_0 K n (fill f24_0_sh [.i x1, .l x2, .l x3])) (fun y1 y2 y3 y4 y5 y6 => K (.ret) (fill f24_0_ex1 [.b y1, .b y2, .b y3, .i y4, .l y5, .l y6])) (fun y1 y2 y3 y4 => K .normal (fill f24_0_ex2 [.b y1, .i y2, .l y3, .l y4])) x1 x2 x3 := by kernel_rfl
theorem f24_0_lp_eq {R : Type} (N : Nat) (K : X → AS → Option R) : ∀ (n : Nat) (x1 : Int) (x2 x3 : List Int), roundsOf (E24 N) N24_0 0 B24_0 K n (fill f24_0_sh [.i x1, .l x2, .l x3]) = f24_0_lp N (fun y1 y2 y3 y4 y5 y6 => K (.ret) (fill f24_0_ex1 [.b y1, .b y2, .b y3, .i y4, .l y5, .l y6])) (fun y1 y2 y3 y4 => K .normal (fill f24_0_ex2 [.b y1, .i y2, .l y3, .l y4])) n x1 x2 x3
 | 0, _, _, _ => rfl
 | n + 1, x1, x2, x3 => by
  rw [f24_0_st_eq, f24_0_lp, show (fun x1 x2 x3 => roundsOf (E24 N) N24_0 0 B24_0 K n (fill f24_0_sh [.i x1, .l x2, .l x3])) = f24_0_lp N (fun y1 y2 y3 y4 y5 y6 => K (.ret) (fill f24_0_ex1 [.b y1, .b y2, .b y3, .i y4, .l y5, .l y6])) (fun y1 y2 y3 y4 => K .normal (fill f24_0_ex2 [.b y1, .i y2, .l y3, .l y4])) n from by funext x1 x2 x3; exact f24_0_lp_eq N K n x1 x2 x3]
theorem f24_0_ok (N : Nat) (hlp : LoopsOk Tryz.prog (E24 N).lp B24_0) (hΓ : CtxOk Tryz.prog (E24 N).Γ) : LoopOk Tryz.prog (mkL N24_0 f24_0_sh (f24_0_F N)) 0 B24_0 := by
 refine loopOk_of (E := E24 N) thOk hΓ mixed hlp ?_
 intro R ls K r h
 unfold f24_0_F at h
 split at h
 ·
  exact ⟨N, by rw [f24_0_lp_eq]; exact h⟩
 ·
  cases h
theorem lok24_0 (N : Nat) (hΓ : CtxOk Tryz.prog []) : LoopOk Tryz.prog (mkL N24_0 f24_0_sh (f24_0_F N)) 0 B24_0 := f24_0_ok N (loopsOk_of (l := []) (by kernel_rfl) trivial) hΓ
theorem f24_contract (N : Nat) (hΓ : CtxOk Tryz.prog []) : Contract Tryz.prog 24 { sig := S24, impl := fun _ ds k => call (E24 N) S24 26 B24 R24 ds k } :=
 call_contract (E := E24 N) thOk hΓ mixed ok24.look ok24.body ok24.n ok24.rv ok24.name rfl (by decide) (loopsOk_of (l := [(0, B24_0)]) (by kernel_rfl) (allOk_cons (L := mkL N24_0 f24_0_sh (f24_0_F N)) rfl (lok24_0 N hΓ) trivial))
theorem f24_raw_eq {R : Type} (N : Nat) (a b : List Int) (k : List DV → Option R) : call (E24 N) S24 26 B24 R24 [.lst (.mix ck78) 33 a, .lst (.mix ck78) 33 b] k = f24_raw N a b k := by kernel_rfl
end
end Go.Proofs.YtogcijgklnfjjaaGreat
