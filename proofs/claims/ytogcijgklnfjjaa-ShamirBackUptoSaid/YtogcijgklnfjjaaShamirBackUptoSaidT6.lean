/- ShamirBack: for any coefficients, identifiers and place whose data stay within 1,048,576: as many shares as coefficients, or more, give the secret back, and the polynomial everywhere. -/
import Derived.Test.YtogcijgklnfjjaaShamirBackUptoSaidT5
import Derived.WalkKit
import Derived.ProofKit
import Derived.JoinedCond
set_option linter.unusedVariables false
set_option linter.unusedSimpArgs false

namespace Go.Proofs.Ytogcijgklnfjjaa
open Go Go.Eng
set_option maxRecDepth 100000
set_option linter.unusedVariables false

theorem pigeon : ∀ (m n : Nat) (f : Nat → Nat), (∀ i, i < n → f i < m) → (∀ i j, i < j → j < n → f i ≠ f j) → n ≤ m
  | 0, n, f, h, _ => by
    cases n with
    | zero => exact Nat.le_refl _
    | succ n => have := h 0 (by omega); omega
  | m + 1, n, f, h, hi => by
    by_cases hx : ∃ i, i < n ∧ f i = m
    · obtain ⟨i, h1, h2⟩ := hx
      have := pigeon m (n - 1) (fun j => if j = i then f (n - 1) else f j) (fun j hj => by
        split
        · rename_i e
          have := h (n - 1) (by omega)
          have := hi i (n - 1) (by omega) (by omega)
          omega
        · rename_i e
          have := h j (by omega)
          have : f j ≠ m := fun e2 => by
            rcases Nat.lt_or_gt_of_ne e with h3 | h3
            · exact hi j i h3 h1 (by omega)
            · exact hi i j h3 (by omega) (by omega)
          omega) (fun a b hab hb => by
        by_cases ea : a = i
        · rw [if_pos ea, if_neg (by omega)]
          exact (hi b (n - 1) (by omega) (by omega)).symm
        · rw [if_neg ea]
          by_cases eb : b = i
          · rw [if_pos eb]; exact hi a (n - 1) (by omega) (by omega)
          · rw [if_neg eb]; exact hi a b hab (by omega))
      omega
    · have := pigeon m n f (fun j hj => by
        have := h j hj
        have : f j ≠ m := fun e => hx ⟨j, hj, e⟩
        omega) hi
      omega
theorem idsE_ok {xs : List Int} : ∀ {j i : Nat}, idsE xs j i = 0 → (∀ k, i ≤ k → k < i + j → 1 ≤ xs.getD k 0 ∧ xs.getD k 0 ≤ 255) ∧ ∀ a b, a < b → i ≤ b → b < i + j → xs.getD a 0 ≠ xs.getD b 0
  | 0, i, _ => ⟨fun k h1 h2 => by omega, fun a b h1 h2 h3 => by omega⟩
  | j + 1, i, h => by
    unfold idsE at h
    cases h1 : decide (xs.getD i 0 < 1) || decide (xs.getD i 0 > 255) with
    | true => rw [h1, cond_true] at h; cases h
    | false =>
      rw [h1, cond_false] at h
      cases h2 : dupF xs i i 0 with
      | true => rw [h2, cond_true] at h; cases h
      | false =>
        rw [h2, cond_false] at h
        obtain ⟨g1, g2⟩ := idsE_ok h
        rw [Bool.or_eq_false_iff] at h1
        have a1 := of_decide_eq_false h1.1
        have a2 := of_decide_eq_false h1.2
        refine ⟨fun k k1 k2 => ?_, fun a b b1 b2 b3 => ?_⟩
        · by_cases e : k = i
          · subst e; omega
          · exact g1 k (by omega) (by omega)
        · by_cases e : b = i
          · subst e
            intro e2
            have : dupF xs b b 0 = true := dupF_iff.2 ⟨a, by omega, by omega, e2⟩
            rw [h2] at this; cases this
          · exact g2 a b b1 (by omega) (by omega)
structure IdsOk (xs : List Int) : Prop where
  pos : 1 ≤ xs.length
  le : xs.length ≤ 255
  rng : ∀ k, k < xs.length → 1 ≤ xs.getD k 0 ∧ xs.getD k 0 ≤ 255
  ne : ∀ a b, a < b → b < xs.length → xs.getD a 0 ≠ xs.getD b 0
theorem ids_ok {xs : List Int} (h : idsN xs = 0) : IdsOk xs := by
  unfold idsN at h
  cases h0 : Nat.beq xs.length 0 with
  | true => rw [h0, cond_true] at h; cases h
  | false =>
    rw [h0, cond_false] at h
    obtain ⟨g1, g2⟩ := idsE_ok h
    have hp : 1 ≤ xs.length := by
      cases hl : xs.length with
      | zero => rw [hl] at h0; cases h0
      | succ n => omega
    have hr : ∀ k, k < xs.length → 1 ≤ xs.getD k 0 ∧ xs.getD k 0 ≤ 255 := fun k hk => g1 k (by omega) (by omega)
    have hn : ∀ a b, a < b → b < xs.length → xs.getD a 0 ≠ xs.getD b 0 := fun a b h1 h2 => g2 a b h1 (by omega) (by omega)
    refine ⟨hp, ?_, hr, hn⟩
    exact pigeon 255 xs.length (fun i => (xs.getD i 0 - 1).toNat) (fun i hi => by have := hr i hi; omega) (fun a b h1 h2 => by
      have := hr a (by omega)
      have := hr b h2
      have := hn a b h1 h2
      omega)
theorem plN_id {x : Int} (h1 : 1 ≤ x) (h2 : x ≤ 255) : plN x = x.toNat := by
  unfold plN IntKind.wrap
  simp only [IntKind.bits, IntKind.signed, Bool.false_and, Bool.false_eq_true, if_false, show (2 : Int) ^ 64 = 18446744073709551616 by decide]
  omega
theorem IdsOk.pl {xs : List Int} (h : IdsOk xs) : ∀ i j, i < j → j < xs.length → plF xs i ≠ plF xs j := fun i j h1 h2 => by
  have a1 := h.rng i (by omega)
  have a2 := h.rng j h2
  have a3 := h.ne i j h1 h2
  unfold plF
  rw [plN_id a1.1 a1.2, plN_id a2.1 a2.2]; omega
theorem pts_x {s : List Int} (hs : okS s = true) {i : Nat} (h : i < s.length / 33) : pX (ptsS s (s.length / 33)) i = plF (idsS s (s.length / 33)) i ∧ pY (ptsS s (s.length / 33)) i = vS (shV s i) := by
  obtain ⟨e1, e2⟩ := ptsS_x hs h (Nat.le_refl _)
  unfold pX pY plF
  rw [e1, e2, vS_sN (plN_lt _), idsS_get s h]
  exact ⟨rfl, rfl⟩
theorem pts_div {s : List Int} (hs : okS s = true) : (ptsS s (s.length / 33)).length / 64 = s.length / 33 := by rw [ptsS_len hs _ (Nat.le_refl _)]; omega
theorem pts_dups {s : List Int} (hs : okS s = true) (h : idsN (idsS s (s.length / 33)) = 0) : dupsP (ptsS s (s.length / 33)) = false := by
  have hi := ids_ok h
  cases hq : dupsP (ptsS s (s.length / 33)) with
  | false => rfl
  | true =>
    obtain ⟨a, b, h1, _, h3, h4⟩ := dupAll_iff.1 hq
    rw [pts_div hs, Nat.zero_add] at h3
    unfold keyP at h4
    have h4 := sN_inj1 (pX_lt _ _) (pX_lt _ _) h4
    rw [(pts_x hs (show a < _ by omega)).1, (pts_x hs h3).1] at h4
    exact absurd h4 (hi.pl a b h1 (by rw [idsS_len]; exact h3))
theorem thr_ok {t : Int} (h : thrE t = 0) : 1 ≤ t ∧ t ≤ 255 := by
  unfold thrE at h
  cases hq : decide (t < 1) || decide (t > 255) with
  | true => rw [hq] at h; cases h
  | false =>
    rw [Bool.or_eq_false_iff] at hq
    have := of_decide_eq_false hq.1
    have := of_decide_eq_false hq.2
    omega

noncomputable def P33 (s : List Int) : List Int := ptsS s (s.length / 33)
def ids33 (s : List Int) : List Int := idsS s (s.length / 33)
noncomputable def onB (s : List Int) (t : Nat) : Bool := bif Nat.ble (s.length / 33) t then true else togB (P33 s) t
noncomputable def zS : List Int := sN 0
theorem zS_eq : List.replicate 32 (0 : Int) = zS := b_zero'
theorem vS_z : vS (List.replicate 32 (0 : Int)) = 0 := by rw [b_zero']; exact vS_sN ell_pos
theorem okB_z : okB (List.replicate 32 (0 : Int)) = true := by rw [b_zero']; exact okB_sN 0

noncomputable def I26 : (R : Type) → List DV → (List DV → Option R) → Option R := fun _ ds k => match ds with
  | [.lst (.mix c) 33 s, .v (.one (.int .i64 t))] => match cksEq c ck43 with
    | true => bif okS s then (bif decide (thrE t = 0) then (bif decide (((s.length / 33 : Nat) : Int) < 1) then k [.v (.one (.bool false)), .v (.one (.int .i64 8))] else bif decide (idsN (ids33 s) = 0) then k [.v (.one (.bool (onB s t.toNat))), .v (.one (.int .i64 0))] else k [.v (.one (.bool false)), .v (.one (.int .i64 (idsN (ids33 s))))])
        else k [.v (.one (.bool false)), .v (.one (.int .i64 (thrE t)))]) else none
    | false => none
  | _ => none
theorem c26 : Contract Try.prog 26 { sig := S26, impl := I26 } := by
  refine Contract.refine fun R ds k r h => ?_
  unfold I26 at h
  split at h
  · rename_i c s t
    refine ⟨_, f26_contract 0 GT5_ok, ?_⟩
    split at h
    · rename_i hl
      have hl := cksEq_iff.1 hl
      subst hl
      cases hc : okS s with
      | false => rw [hc] at h; cases h
      | true =>
        rw [hc, cond_true] at h
        obtain ⟨b1, b2, b3⟩ := okS_n hc
        show call (E26 0) S26 20 B26 R26 [DV.lst (RK.mix ck43) 33 s, .v (.one (.int .i64 t))] k = some r
        rw [f26_raw_eq]
        unfold f26_raw
        rw [hc, cond_true]
        by_cases h0 : thrE t = 0
        · rw [decide_eq_true h0, cond_true] at h ⊢
          have ht := thr_ok h0
          have hr : nI (s.length / 33) = ((s.length / 33 : Nat) : Int) := rfl
          rw [hr]
          cases h1 : decide (((s.length / 33 : Nat) : Int) < 1) with
          | true => rw [h1] at h; exact h
          | false =>
            rw [h1, cond_false] at h
            rw [cond_false]
            by_cases h2 : idsN (idsS s (s.length / 33)) = 0
            · have h2' : idsN (ids33 s) = 0 := h2
              have hi := ids_ok h2
              rw [decide_eq_true h2', cond_true] at h
              have hn := idsS_len s (s.length / 33)
              have hle := hi.le
              rw [h2, show ((0 : Int) != 0) = false from rfl, cond_false, ptsS_ok hc (Nat.le_refl _) (by omega), pts_dups hc h2, pts_div hc, decide_eq_true ht.1, decide_eq_true ht.2, Nat.ble_eq_true_of_le (show s.length / 33 ≤ 2000000 by omega)]
              exact h
            · have h2' : ¬ idsN (ids33 s) = 0 := h2
              rw [decide_eq_false h2', cond_false] at h
              rw [show (idsN (idsS s (s.length / 33)) != 0) = true by simpa using h2, cond_true]
              exact h
        · rw [decide_eq_false h0, cond_false] at h ⊢
          rw [show (thrE t != 0) = true by simpa using h0, cond_true]
          exact h
    · cases h
  · cases h
noncomputable def I24 : (R : Type) → List DV → (List DV → Option R) → Option R := fun _ ds k => match ds with
  | [.lst (.mix c) 33 s, .v (.one (.int .i64 t))] => match cksEq c ck43 with
    | true => bif okS s then (bif decide (thrE t = 0) then (bif decide (((s.length / 33 : Nat) : Int) < t) then k [.v (.one (.ints .u8 32 zS)), .v (.one (.int .i64 8))] else bif decide (idsN (ids33 s) = 0) then (bif onB s t.toNat then k [.v (.one (.ints .u8 32 (sN (valG (pX (P33 s)) (pY (P33 s)) 0 t.toNat t.toNat)))), .v (.one (.int .i64 0))] else k [.v (.one (.ints .u8 32 zS)), .v (.one (.int .i64 71))])
          else k [.v (.one (.ints .u8 32 zS)), .v (.one (.int .i64 (idsN (ids33 s))))])
        else k [.v (.one (.ints .u8 32 zS)), .v (.one (.int .i64 (thrE t)))]) else none
    | false => none
  | _ => none
theorem valG_congr {X X' Y Y' : Nat → Nat} {v n : Nat} (h : ∀ j, j < n → X j = X' j) (h' : ∀ j, j < n → Y j = Y' j) : ∀ i, i ≤ n → valG X Y v n i = valG X' Y' v n i
  | 0, _ => rfl
  | i + 1, hi => by
    unfold valG
    rw [valG_congr h h' i (by omega), basG_congr h (show i < n by omega), h' i (by omega)]
theorem c24 : Contract Try.prog 24 { sig := S24, impl := I24 } := by
  refine Contract.refine fun R ds k r h => ?_
  unfold I24 at h
  split at h
  · rename_i c s t
    refine ⟨_, f24_contract 0 GT5_ok, ?_⟩
    split at h
    · rename_i hl
      have hl := cksEq_iff.1 hl
      subst hl
      cases hc : okS s with
      | false => rw [hc] at h; cases h
      | true =>
        rw [hc, cond_true] at h
        obtain ⟨b1, b2, b3⟩ := okS_n hc
        show call (E24 0) S24 29 B24 R24 [DV.lst (RK.mix ck43) 33 s, .v (.one (.int .i64 t))] k = some r
        rw [f24_raw_eq]
        unfold f24_raw
        rw [hc, cond_true]
        by_cases h0 : thrE t = 0
        · rw [decide_eq_true h0, cond_true] at h ⊢
          have ht := thr_ok h0
          have hr : nI (s.length / 33) = ((s.length / 33 : Nat) : Int) := rfl
          rw [hr]
          cases h1 : decide (((s.length / 33 : Nat) : Int) < t) with
          | true => rw [h1] at h; rw [cond_true, zS_eq]; exact h
          | false =>
            rw [h1, cond_false] at h
            rw [cond_false]
            have h1 := of_decide_eq_false h1
            by_cases h2 : idsN (idsS s (s.length / 33)) = 0
            · have h2' : idsN (ids33 s) = 0 := h2
              have hi := ids_ok h2
              rw [decide_eq_true h2', cond_true] at h
              have hn := idsS_len s (s.length / 33)
              have hle := hi.le
              have hd := pts_dups hc h2
              obtain ⟨m, rfl⟩ : ∃ m : Nat, t = (m : Int) := ⟨t.toNat, by omega⟩
              have hP := ptsS_ok hc (Nat.le_refl (s.length / 33)) (by omega)
              have hpd := pts_div hc
              rw [h2, show ((0 : Int) != 0) = false from rfl, cond_false, hP, hd, hpd, decide_eq_true ht.1, decide_eq_true ht.2, Nat.ble_eq_true_of_le (show s.length / 33 ≤ 2000000 by omega)]
              have hon : (bif Nat.ble (s.length / 33) (Int.toNat (m : Int)) then true else togB (ptsS s (s.length / 33)) (Int.toNat (m : Int))) = onB s m := rfl
              rw [Int.toNat_natCast] at h
              simp only [Bool.and_self, Bool.not_false, cond_true]
              rw [hon]
              cases hb : onB s m with
              | false => rw [hb] at h; rw [Bool.not_false, cond_true, zS_eq]; exact h
              | true =>
                rw [hb, cond_true] at h
                have r0 : rowLen 64 (ptsS s (s.length / 33)) = s.length / 33 := hpd
                have e1 : hiOk (some (m : Int)) (s.length / 33) = true := by
                  show (decide ((0 : Int) ≤ (m : Int)) && decide ((m : Int) ≤ ((s.length / 33 : Nat) : Int))) = true
                  rw [decide_eq_true (by omega), decide_eq_true (by omega)]; rfl
                have e3 : Go.Eng.sub (ptsS s (s.length / 33)) (Off.el 0 64 0) (Go.Eng.subN (hiNat (some (m : Int)) (s.length / 33)) none * 64) = (ptsS s (s.length / 33)).take (m * 64) := rfl
                have hmn : m ≤ (ptsS s (s.length / 33)).length / 64 := by omega
                rw [Bool.not_true, cond_false, r0, e1, cond_true, e3, take_okP hP m, okB_z, dups_take hmn hd, take_div hmn, Nat.ble_eq_true_of_le (show m ≤ 30000 by omega), vS_z,
                  valG_congr (X' := pX (P33 s)) (Y' := pY (P33 s)) (fun j hj => by unfold pX; rw [take_ptX hj]; rfl) (fun j hj => by unfold pY; rw [take_ptY hj]; rfl) m (Nat.le_refl _)]
                exact h
            · have h2' : ¬ idsN (ids33 s) = 0 := h2
              rw [decide_eq_false h2', cond_false] at h
              rw [show (idsN (idsS s (s.length / 33)) != 0) = true by simpa using h2, cond_true, zS_eq]
              exact h
        · rw [decide_eq_false h0, cond_false] at h ⊢
          rw [show (thrE t != 0) = true by simpa using h0, cond_true, zS_eq]
          exact h
    · cases h
  · cases h
noncomputable def I25 : (R : Type) → List DV → (List DV → Option R) → Option R := fun _ ds k => match ds with
  | [.lst (.mix c) 33 s, .v (.one (.ints .u8 32 x))] => match cksEq c ck43 with
    | true => bif okS s && okB x then (bif decide (idsN (ids33 s) = 0) then k [.v (.one (.ints .u8 32 (sN (valG (pX (P33 s)) (pY (P33 s)) (vS x) (s.length / 33) (s.length / 33))))), .v (.one (.int .i64 0))] else k [.v (.one (.ints .u8 32 zS)), .v (.one (.int .i64 (idsN (ids33 s))))]) else none
    | false => none
  | _ => none
theorem c25 : Contract Try.prog 25 { sig := S25, impl := I25 } := by
  refine Contract.refine fun R ds k r h => ?_
  unfold I25 at h
  split at h
  · rename_i c s x
    refine ⟨_, f25_contract 0 GT5_ok, ?_⟩
    split at h
    · rename_i hl
      have hl := cksEq_iff.1 hl
      subst hl
      cases hc2 : okS s && okB x with
      | false => rw [hc2] at h; cases h
      | true =>
        rw [hc2, cond_true] at h
        rw [Bool.and_eq_true] at hc2
        have hc := hc2.1
        obtain ⟨b1, b2, b3⟩ := okS_n hc
        show call (E25 0) S25 23 B25 R25 [DV.lst (RK.mix ck43) 33 s, .v (.one (.ints .u8 32 x))] k = some r
        rw [f25_raw_eq]
        unfold f25_raw
        rw [hc, cond_true, idsS_len, Nat.ble_eq_true_of_le (show s.length / 33 ≤ 1073741824 by omega), cond_true]
        by_cases h2 : idsN (idsS s (s.length / 33)) = 0
        · have h2' : idsN (ids33 s) = 0 := h2
          have hi := ids_ok h2
          rw [decide_eq_true h2', cond_true] at h
          have hn := idsS_len s (s.length / 33)
          have hle := hi.le
          rw [h2, show ((0 : Int) != 0) = false from rfl, cond_false, ptsS_ok hc (Nat.le_refl _) (by omega), hc2.2, pts_dups hc h2, pts_div hc, Nat.ble_eq_true_of_le (show s.length / 33 ≤ 30000 by omega)]
          exact h
        · have h2' : ¬ idsN (ids33 s) = 0 := h2
          rw [decide_eq_false h2', cond_false] at h
          rw [show (idsN (idsS s (s.length / 33)) != 0) = true by simpa using h2, cond_true, zS_eq]
          exact h
    · cases h
  · cases h

end Go.Proofs.Ytogcijgklnfjjaa

namespace Go.Proofs.Ytogcijgklnfjjaa
open Go Go.Eng
set_option maxRecDepth 100000
set_option linter.unusedVariables false

def f20_0_sh : Shp := { n := 21, lo := 1, slots := [(0, .one (.fix (At.own 0))), (3, .one (.fix (At.own 1000003))), (4, .one (.int IntKind.i64))], items := [(1000003, .row (RK.one IntKind.u8) 32), (0, .view (RK.one IntKind.u8) 32)] }
def f20_0_ex1 : Shp := { n := 21, lo := 1, slots := [(8, .one (.bool)), (0, .one (.fix (At.own 0))), (3, .one (.fix (At.own 1000003))), (4, .one (.int IntKind.i64))], items := [(1000003, .row (RK.one IntKind.u8) 32), (0, .view (RK.one IntKind.u8) 32)] }
noncomputable def f20_0_st {R : Type} (N : Nat) (self : Int → List Int → List Int → Option R) (k1 : Bool → Int → List Int → List Int → Option R) (x1 : Int) (x2 : List Int) (x3 : List Int) : Option R :=
 bif Decidable.decide (x1 < nI (rowLen 32 x3)) then
 bif Decidable.decide (0 ≤ x1) && Decidable.decide (x1 < nI (rowLen 32 x3)) then
 bif okB (List.take 32 (List.drop (mulE x1.toNat 32) x3)) && okB (List.replicate 32 0) then
 let v0 : List Int := splice (zerosOf (1 * 32)) (Off.at (0 * 32)) (sN (addN (vS (List.take 32 (List.drop (mulE x1.toNat 32) x3))) (vS (List.replicate 32 0))));
 bif ((2 * (rowLen 32 x2 + rowLen 32 v0) + 192) * 32).ble big48 && (rowLen 32 x2 + rowLen 32 v0).ble big48 then
 let v1 : Int := IntKind.i64.wrap (x1 + 1);
 let v2 : List Int := x2 ++ v0;
 self v1 v2 x3
 else Option.none
 else Option.none
 else Option.none
else k1 (Decidable.decide (x1 < nI (rowLen 32 x3))) x1 x2 x3
noncomputable def f20_0_lp {R : Type} (N : Nat) (k1 : Bool → Int → List Int → List Int → Option R) : Nat → Int → List Int → List Int → Option R
 | 0, _, _, _ => none
 | n + 1, x1, x2, x3 => f20_0_st N (f20_0_lp N k1 n) k1 x1 x2 x3
noncomputable def f20_0_F (N : Nat) : (R : Type) → List Leaf → (X → AS → Option R) → Option R := fun _ ls K => match ls with
 | [.i x1, .l x2, .l x3] => f20_0_lp N (fun y1 y2 y3 y4 => K (X.normal) (fill f20_0_ex1 [.b y1, .i y2, .l y3, .l y4])) N x1 x2 x3
 | _ => none
noncomputable def f20_raw {R : Type} (N : Nat) (xs : List Int) (k : List DV → Option R) : Option R :=
 f20_0_lp N (fun w0_1 w0_2 w0_3 w0_4 => k [DV.lst (RK.one IntKind.u8) 32 w0_3]) N 0 [] xs


noncomputable def E20 (N : Nat) : Env := { Θ := Th, Γ := GRX, K := K20, ν := N20, fuel := 0, lp := [(0, mkL N20_0 f20_0_sh (f20_0_F N))] }

theorem f20_0_st_eq {R : Type} (N : Nat) (K : X → AS → Option R) (n : Nat) (x1 : Int) (x2 : List Int) (x3 : List Int) : roundsOf (E20 N) N20_0 0 B20_0 K (n + 1) (fill f20_0_sh [.i x1, .l x2, .l x3]) = f20_0_st N (fun x1 x2 x3 => roundsOf (E20 N) N20_0 0 B20_0 K n (fill f20_0_sh [.i x1, .l x2, .l x3])) (fun y1 y2 y3 y4 => K (X.normal) (fill f20_0_ex1 [.b y1, .i y2, .l y3, .l y4])) x1 x2 x3 := by kernel_rfl
theorem f20_0_lp_eq {R : Type} (N : Nat) (K : X → AS → Option R) : ∀ (n : Nat) (x1 : Int) (x2 : List Int) (x3 : List Int), roundsOf (E20 N) N20_0 0 B20_0 K n (fill f20_0_sh [.i x1, .l x2, .l x3]) = f20_0_lp N (fun y1 y2 y3 y4 => K (X.normal) (fill f20_0_ex1 [.b y1, .i y2, .l y3, .l y4])) n x1 x2 x3
  | 0, _, _, _ => rfl
  | n + 1, x1, x2, x3 => by
    rw [f20_0_st_eq, f20_0_lp, show (fun x1 x2 x3 => roundsOf (E20 N) N20_0 0 B20_0 K n (fill f20_0_sh [.i x1, .l x2, .l x3])) = f20_0_lp N (fun y1 y2 y3 y4 => K (X.normal) (fill f20_0_ex1 [.b y1, .i y2, .l y3, .l y4])) n from by funext x1 x2 x3; exact f20_0_lp_eq N K n x1 x2 x3]
theorem f20_0_ok (N : Nat) (hlp : LoopsOk Try.prog (E20 N).lp B20_0) (hΓ : CtxOk Try.prog (E20 N).Γ) : LoopOk Try.prog (mkL N20_0 f20_0_sh (f20_0_F N)) 0 B20_0 := by
  refine loopOk_of (E := E20 N) thOk hΓ mixed hlp ?_
  intro R ls K r h
  unfold f20_0_F at h
  split at h
  · exact ⟨N, by rw [f20_0_lp_eq]; exact h⟩
  · cases h

theorem lok20_0 (N : Nat) (hΓ : CtxOk Try.prog GRX) : LoopOk Try.prog (mkL N20_0 f20_0_sh (f20_0_F N)) 0 B20_0 := f20_0_ok N (loopsOk_of (l := []) (by kernel_rfl) trivial) hΓ
theorem f20_contract (N : Nat) (hΓ : CtxOk Try.prog GRX) : Contract Try.prog 20 { sig := S20, impl := fun _ ds k => call (E20 N) S20 21 B20 R20 ds k } :=
  call_contract (E := E20 N) thOk hΓ mixed ok20.look ok20.body ok20.n ok20.rv ok20.name rfl (by decide) (loopsOk_of (l := [(0, B20_0)]) (by kernel_rfl) (allOk_cons (L := mkL N20_0 f20_0_sh (f20_0_F N)) rfl (lok20_0 N hΓ) trivial))
theorem f20_raw_eq {R : Type} (N : Nat) (xs : List Int) (k : List DV → Option R) : call (E20 N) S20 21 B20 R20 [.lst (.one .u8) 32 xs] k = f20_raw N xs k := by kernel_rfl
end Go.Proofs.Ytogcijgklnfjjaa

namespace Go.Proofs.Ytogcijgklnfjjaa
open Go Go.Eng
set_option maxRecDepth 100000
set_option linter.unusedVariables false

end Go.Proofs.Ytogcijgklnfjjaa

namespace Go.Proofs.Ytogcijgklnfjjaa
open Go Go.Eng
set_option maxRecDepth 100000

def elC : Nat := 7237005577332262213973186563042994240857116359379907606001950938285454250989
theorem ell_elC : ell = elC := ell_def
def sC (v : Nat) : List Int := nats (digs 256 32 v)
theorem sN_sC (v : Nat) : sN v = sC v := sN_def v
def vC (x : List Int) : Nat := numB x % elC
theorem vS_vC (x : List Int) : vS x = vC x := by rw [vS_def, ell_elC]; rfl
def pwC : Nat → Nat → Nat → Nat
  | 0, _, _ => 1
  | n + 1, b, e => bif Nat.beq (e % 2) 1 then b * pwC n (b * b % elC) (e / 2) % elC else pwC n (b * b % elC) (e / 2)
theorem pwC_eq : ∀ (n b e : Nat), e < 2 ^ n → pwC n b e % elC = b ^ e % elC
  | 0, b, e, h => by
    have : e = 0 := by simp at h; exact h
    subst this; rfl
  | n + 1, b, e, h => by
    have ih := pwC_eq n (b * b % elC) (e / 2) (by rw [Nat.pow_succ] at h; omega)
    have e1 : (b * b % elC) ^ (e / 2) % elC = b ^ (2 * (e / 2)) % elC := by
      rw [← Nat.pow_mod, ← Nat.pow_two, ← Nat.pow_mul]
    unfold pwC
    have h2 := Nat.mod_two_eq_zero_or_one e
    cases hb : Nat.beq (e % 2) 1 with
    | true =>
      have h3 := Nat.eq_of_beq_eq_true hb
      rw [cond_true, Nat.mod_mod, Nat.mul_mod, ih, e1, ← Nat.mul_mod]
      have : e = 2 * (e / 2) + 1 := by omega
      rw [show b * b ^ (2 * (e / 2)) = b ^ (2 * (e / 2) + 1) by rw [Nat.pow_succ, Nat.mul_comm], ← this]
    | false =>
      have h3 : e % 2 ≠ 1 := fun q => by rw [q] at hb; cases hb
      rw [cond_false, ih, e1]
      have : e = 2 * (e / 2) := by omega
      rw [← this]
def inC (a : Nat) : Nat := pwC 256 a 7237005577332262213973186563042994240857116359379907606001950938285454250987 % elC
theorem invN_inC (a : Nat) : invN a = inC a := by
  rw [invN_def, powN_def, ell_elC]
  exact (pwC_eq 256 a _ (by decide +kernel)).symm

def adC (a b : Nat) : Nat := (a + b) % elC
def ngC (a : Nat) : Nat := (elC - a) % elC
def mlC (a b : Nat) : Nat := a * b % elC
theorem addN_adC (a b : Nat) : addN a b = adC a b := by rw [addN_def, ell_elC]; rfl
theorem negN_ngC (a : Nat) : negN a = ngC a := by rw [negN_def, ell_elC]; rfl
theorem mulN_mlC (a b : Nat) : mulN a b = mlC a b := by rw [mulN_def, ell_elC]; rfl
theorem difN_C (a b : Nat) : difN a b = adC a (ngC b) := by unfold difN; rw [addN_adC, negN_ngC]

def C30 : (R : Type) → List DV → (List DV → Option R) → Option R := fun _ ds k => match ds with
  | [.v (.one (.ints .u8 32 x)), .v (.one (.ints .u8 32 y))] => bif okB x && okB y then k [.v (.one (.ints .u8 32 (sC (adC (vC x) (vC y)))))] else none
  | _ => none
def C32 : (R : Type) → List DV → (List DV → Option R) → Option R := fun _ ds k => match ds with
  | [.v (.one (.ints .u8 32 x)), .v (.one (.ints .u8 32 y))] => bif okB x && okB y then k [.v (.one (.ints .u8 32 (sC (adC (vC x) (ngC (vC y))))))] else none
  | _ => none
def C33 : (R : Type) → List DV → (List DV → Option R) → Option R := fun _ ds k => match ds with
  | [.v (.one (.ints .u8 32 x)), .v (.one (.ints .u8 32 y))] => bif okB x && okB y then k [.v (.one (.ints .u8 32 (sC (mlC (vC x) (vC y)))))] else none
  | _ => none
def C42 : (R : Type) → List DV → (List DV → Option R) → Option R := fun _ ds k => match ds with
  | [.v (.one (.ints .u8 32 x)), .v (.one (.ints .u8 32 y)), .v (.one (.ints .u8 32 z))] => bif okB x && okB y && okB z then k [.v (.one (.ints .u8 32 (sC (adC (mlC (vC x) (vC y)) (vC z)))))] else none
  | _ => none
def C71 : (R : Type) → List DV → (List DV → Option R) → Option R := fun _ ds k => match ds with
  | [.v (.one (.ints .u8 32 x))] => bif okB x then k [.v (.one (.ints .u8 32 (sC (ngC (vC x)))))] else none
  | _ => none
def C88 : (R : Type) → List DV → (List DV → Option R) → Option R := fun _ ds k => match ds with
  | [.v (.one (.ints .u8 32 x))] => bif okB x then k [.v (.one (.bool (Nat.beq (vC x) 0)))] else none
  | _ => none
def C31 : (R : Type) → List DV → (List DV → Option R) → Option R := fun _ ds k => match ds with
  | [.v (.one (.ints .u8 32 x))] => bif okB x then (bif Nat.beq (vC x) 0 then k [.v (.one (.ints .u8 32 (List.replicate 32 0))), .v (.one (.int .i64 9))] else k [.v (.one (.ints .u8 32 (sC (inC (vC x))))), .v (.one (.int .i64 0))]) else none
  | _ => none
def C40 : (R : Type) → List DV → (List DV → Option R) → Option R := fun _ ds k => match ds with
  | [.v (.one (.int .i64 x))] => k [.v (.one (.ints .u8 32 (sC (IntKind.u64.wrap x).toNat)))]
  | _ => none

theorem beq_dec (a : Nat) : Nat.beq a 0 = decide (a = 0) := by cases a <;> rfl
theorem cC30 : Contract Try.prog 30 { sig := S30, impl := C30 } := by
  refine Contract.refine fun R ds k r h => ⟨_, c30, ?_⟩
  unfold C30 at h
  unfold I30
  split at h
  · simp only [sN_sC, addN_adC, vS_vC]; exact h
  · cases h
theorem cC32 : Contract Try.prog 32 { sig := S32, impl := C32 } := by
  refine Contract.refine fun R ds k r h => ⟨_, c32, ?_⟩
  unfold C32 at h
  unfold I32
  split at h
  · simp only [sN_sC, difN_C, vS_vC]; exact h
  · cases h
theorem cC33 : Contract Try.prog 33 { sig := S33, impl := C33 } := by
  refine Contract.refine fun R ds k r h => ⟨_, c33, ?_⟩
  unfold C33 at h
  unfold I33
  split at h
  · simp only [sN_sC, mulN_mlC, vS_vC]; exact h
  · cases h
theorem cC42 : Contract Try.prog 42 { sig := S42, impl := C42 } := by
  refine Contract.refine fun R ds k r h => ⟨_, c42, ?_⟩
  unfold C42 at h
  unfold I42
  split at h
  · simp only [sN_sC, mulN_mlC, addN_adC, vS_vC]; exact h
  · cases h
theorem cC71 : Contract Try.prog 71 { sig := S71, impl := C71 } := by
  refine Contract.refine fun R ds k r h => ⟨_, c71, ?_⟩
  unfold C71 at h
  unfold I71
  split at h
  · simp only [sN_sC, negN_ngC, vS_vC]; exact h
  · cases h
theorem cC88 : Contract Try.prog 88 { sig := S88, impl := C88 } := by
  refine Contract.refine fun R ds k r h => ⟨_, c88, ?_⟩
  unfold C88 at h
  unfold I88
  split at h
  · simp only [vS_vC, ← beq_dec]; exact h
  · cases h
theorem cC31 : Contract Try.prog 31 { sig := S31, impl := C31 } := by
  refine Contract.refine fun R ds k r h => ⟨_, c31, ?_⟩
  unfold C31 at h
  unfold I31
  split at h
  · simp only [sN_sC, invN_inC, vS_vC, ← beq_dec]; exact h
  · cases h
theorem cC40 : Contract Try.prog 40 { sig := S40, impl := C40 } := by
  refine Contract.refine fun R ds k r h => ⟨_, c40, ?_⟩
  unfold C40 at h
  unfold I40
  split at h
  · simp only [sN_sC, plN]; exact h
  · cases h

def hzC (x : List Int) : Nat → Nat → Bool
  | 0, _ => false
  | j + 1, i => bif Nat.beq (vC (elF x i)) 0 then true else hzC x j (i + 1)
theorem hzC_eq (x : List Int) : ∀ j i, (fz x j i).isSome = hzC x j i
  | 0, _ => rfl
  | j + 1, i => by
    unfold fz hzC
    rw [vS_vC, beq_dec]
    by_cases h : vC (elF x i) = 0
    · rw [if_pos h, decide_eq_true h]; rfl
    · rw [if_neg h, decide_eq_false h]; exact hzC_eq x j (i + 1)
def C77 : (R : Type) → List DV → (List DV → Option R) → Option R := fun _ ds k => match ds with
  | [.lst (.one .u8) 32 x] => bif okF x && !(hzC x (x.length / 32) 0) then k [.lst (.one .u8) 32 (headG (fun i => sC (inC (vC (elF x i)))) (x.length / 32)), .v (.one (.int .i64 0)), .v (.one (.int .i64 0))] else none
  | _ => none
theorem cC77 : Contract Try.prog 77 { sig := S77, impl := C77 } := by
  refine Contract.refine fun R ds k r h => ⟨_, c77b, ?_⟩
  unfold C77 at h
  unfold I77b
  split at h
  · rename_i x
    cases hc : okF x && !(hzC x (x.length / 32) 0) with
    | false => rw [hc] at h; cases h
    | true =>
      rw [hc, cond_true] at h
      rw [Bool.and_eq_true, Bool.not_eq_true'] at hc
      have e : hasZ x = false := by unfold hasZ; rw [hzC_eq]; exact hc.2
      have e2 : invS x = headG (fun i => sC (inC (vC (elF x i)))) (x.length / 32) := by
        unfold invS; simp only [sN_sC, invN_inC, vS_vC]
      show (bif okF x then (bif hasZ x then _ else _) else none) = some r
      rw [hc.1, e, e2]; exact h
  · cases h
def dtC (x y : List Int) : Nat → Nat
  | 0 => 0
  | i + 1 => adC (dtC x y i) (mlC (vC (elF x i)) (vC (elF y i)))
theorem dotF_dtC (x y : List Int) : ∀ i, dotF x y i = dtC x y i
  | 0 => rfl
  | i + 1 => by unfold dotF dtC; rw [addN_adC, mulN_mlC, vS_vC, vS_vC, dotF_dtC x y i]
def C76 : (R : Type) → List DV → (List DV → Option R) → Option R := fun _ ds k => match ds with
  | [.lst (.one .u8) 32 x, .lst (.one .u8) 32 y] => bif okF x && okF y then (bif Nat.beq (x.length / 32) (y.length / 32) then k [.v (.one (.ints .u8 32 (sC (dtC x y (x.length / 32))))), .v (.one (.int .i64 0))] else none) else none
  | _ => none
theorem cC76 : Contract Try.prog 76 { sig := S76, impl := C76 } := by
  refine Contract.refine fun R ds k r h => ⟨_, c76, ?_⟩
  unfold C76 at h
  unfold I76
  split at h
  · rename_i x y
    cases hc : okF x && okF y with
    | false => rw [hc] at h; cases h
    | true =>
      rw [hc, cond_true] at h
      cases he : Nat.beq (x.length / 32) (y.length / 32) with
      | false => rw [he] at h; cases h
      | true =>
        rw [he, cond_true] at h
        simp only [hc, he, cond_true, dotF_dtC, sN_sC]; exact h
  · cases h
def GC : Ctx := [(76, { sig := S76, impl := C76 }), (77, { sig := S77, impl := C77 }), (30, { sig := S30, impl := C30 }), (31, { sig := S31, impl := C31 }), (32, { sig := S32, impl := C32 }), (33, { sig := S33, impl := C33 }), (40, { sig := S40, impl := C40 }), (42, { sig := S42, impl := C42 }), (71, { sig := S71, impl := C71 }), (88, { sig := S88, impl := C88 })]
theorem GC_ok : CtxOk Try.prog GC := ctxOk_cons ok76 rfl cC76 (ctxOk_cons ok77 rfl cC77 (ctxOk_cons ok30 rfl cC30 (ctxOk_cons ok31 rfl cC31 (ctxOk_cons ok32 rfl cC32 (ctxOk_cons ok33 rfl cC33 (ctxOk_cons ok40 rfl cC40 (ctxOk_cons ok42 rfl cC42 (ctxOk_cons ok71 rfl cC71 (ctxOk_cons ok88 rfl cC88 ctxOk_nil)))))))))
end Go.Proofs.Ytogcijgklnfjjaa

namespace Go.Proofs.Ytogcijgklnfjjaa
open Go Go.Eng
set_option maxRecDepth 100000

noncomputable def AE12 : Env := { Θ := Th, Γ := GC, K := K12, ν := [], fuel := 64, lp := [] }
theorem al12 : Contract Try.prog 12 { sig := S12, impl := fun _ ds k => call AE12 S12 4 B12 R12 ds k } :=
  call_contract (E := AE12) thOk GC_ok mixed ok12.look ok12.body ok12.n ok12.rv ok12.name rfl (by decide) (loopsOk_of (l := []) (by kernel_rfl) trivial)
noncomputable def GA12 : Ctx := (12, { sig := S12, impl := fun _ ds k => call AE12 S12 4 B12 R12 ds k }) :: GC
theorem GA12_ok : CtxOk Try.prog GA12 := ctxOk_cons ok12 rfl al12 GC_ok

noncomputable def AE43 : Env := { Θ := Th, Γ := GA12, K := K43, ν := [], fuel := 64, lp := [] }
theorem al43 : Contract Try.prog 43 { sig := S43, impl := fun _ ds k => call AE43 S43 9 B43 R43 ds k } :=
  call_contract (E := AE43) thOk GA12_ok mixed ok43.look ok43.body ok43.n ok43.rv ok43.name rfl (by decide) (loopsOk_of (l := []) (by kernel_rfl) trivial)
noncomputable def GA43 : Ctx := (43, { sig := S43, impl := fun _ ds k => call AE43 S43 9 B43 R43 ds k }) :: GA12
theorem GA43_ok : CtxOk Try.prog GA43 := ctxOk_cons ok43 rfl al43 GA12_ok

noncomputable def AE70 : Env := { Θ := Th, Γ := GA43, K := K70, ν := [], fuel := 64, lp := [] }
theorem al70 : Contract Try.prog 70 { sig := S70, impl := fun _ ds k => call AE70 S70 9 B70 R70 ds k } :=
  call_contract (E := AE70) thOk GA43_ok mixed ok70.look ok70.body ok70.n ok70.rv ok70.name rfl (by decide) (loopsOk_of (l := []) (by kernel_rfl) trivial)
noncomputable def GA70 : Ctx := (70, { sig := S70, impl := fun _ ds k => call AE70 S70 9 B70 R70 ds k }) :: GA43
theorem GA70_ok : CtxOk Try.prog GA70 := ctxOk_cons ok70 rfl al70 GA43_ok

noncomputable def AE108 : Env := { Θ := Th, Γ := GA70, K := K108, ν := [], fuel := 64, lp := [] }
theorem al108 : Contract Try.prog 108 { sig := S108, impl := fun _ ds k => call AE108 S108 6 B108 R108 ds k } :=
  call_contract (E := AE108) thOk GA70_ok mixed ok108.look ok108.body ok108.n ok108.rv ok108.name rfl (by decide) (loopsOk_of (l := []) (by kernel_rfl) trivial)
noncomputable def GA108 : Ctx := (108, { sig := S108, impl := fun _ ds k => call AE108 S108 6 B108 R108 ds k }) :: GA70
theorem GA108_ok : CtxOk Try.prog GA108 := ctxOk_cons ok108 rfl al108 GA70_ok

noncomputable def AE97 : Env := { Θ := Th, Γ := GA108, K := K97, ν := [], fuel := 64, lp := [] }
theorem al97 : Contract Try.prog 97 { sig := S97, impl := fun _ ds k => call AE97 S97 17 B97 R97 ds k } :=
  call_contract (E := AE97) thOk GA108_ok mixed ok97.look ok97.body ok97.n ok97.rv ok97.name rfl (by decide) (loopsOk_of (l := []) (by kernel_rfl) trivial)
noncomputable def GA97 : Ctx := (97, { sig := S97, impl := fun _ ds k => call AE97 S97 17 B97 R97 ds k }) :: GA108
theorem GA97_ok : CtxOk Try.prog GA97 := ctxOk_cons ok97 rfl al97 GA108_ok

noncomputable def AE91 : Env := { Θ := Th, Γ := GA97, K := K91, ν := [(0, ⟨[], []⟩), (2, ⟨[], []⟩)], fuel := 64, lp := [] }
theorem al91 : Contract Try.prog 91 { sig := { ps := [], rs := [] }, impl := fun _ ds k => callN AE91 3 49 B91 R91 ds k, kind := .inl 3 } :=
  inl_contract (E := AE91) thOk GA97_ok mixed ok91 (loopsOk_of (l := [(0, B91_0), (2, B91_2)]) (by kernel_rfl) (allOk_skip rfl (allOk_skip rfl trivial)))
noncomputable def GA91 : Ctx := (91, { sig := { ps := [], rs := [] }, impl := fun _ ds k => callN AE91 3 49 B91 R91 ds k, kind := .inl 3 }) :: GA97
theorem GA91_ok : CtxOk Try.prog GA91 := ctxOk_cons ok91 rfl al91 GA97_ok

noncomputable def AE101 : Env := { Θ := Th, Γ := GA91, K := K101, ν := [], fuel := 64, lp := [] }
theorem al101 : Contract Try.prog 101 { sig := S101, impl := fun _ ds k => call AE101 S101 25 B101 R101 ds k } :=
  call_contract (E := AE101) thOk GA91_ok mixed ok101.look ok101.body ok101.n ok101.rv ok101.name rfl (by decide) (loopsOk_of (l := []) (by kernel_rfl) trivial)
noncomputable def GA101 : Ctx := (101, { sig := S101, impl := fun _ ds k => call AE101 S101 25 B101 R101 ds k }) :: GA91
theorem GA101_ok : CtxOk Try.prog GA101 := ctxOk_cons ok101 rfl al101 GA91_ok

noncomputable def AE75 : Env := { Θ := Th, Γ := GA101, K := K75, ν := [], fuel := 64, lp := [] }
theorem al75 : Contract Try.prog 75 { sig := S75, impl := fun _ ds k => call AE75 S75 8 B75 R75 ds k } :=
  call_contract (E := AE75) thOk GA101_ok mixed ok75.look ok75.body ok75.n ok75.rv ok75.name rfl (by decide) (loopsOk_of (l := []) (by kernel_rfl) trivial)
noncomputable def GA75 : Ctx := (75, { sig := S75, impl := fun _ ds k => call AE75 S75 8 B75 R75 ds k }) :: GA101
theorem GA75_ok : CtxOk Try.prog GA75 := ctxOk_cons ok75 rfl al75 GA101_ok

noncomputable def AE74 : Env := { Θ := Th, Γ := GA75, K := K74, ν := [(0, ⟨[], []⟩)], fuel := 64, lp := [] }
theorem al74 : Contract Try.prog 74 { sig := { ps := [], rs := [] }, impl := fun _ ds k => callN AE74 4 134 B74 R74 ds k, kind := .inl 4 } :=
  inl_contract (E := AE74) thOk GA75_ok mixed ok74 (loopsOk_of (l := [(0, B74_0)]) (by kernel_rfl) (allOk_skip rfl trivial))
noncomputable def GA74 : Ctx := (74, { sig := { ps := [], rs := [] }, impl := fun _ ds k => callN AE74 4 134 B74 R74 ds k, kind := .inl 4 }) :: GA75
theorem GA74_ok : CtxOk Try.prog GA74 := ctxOk_cons ok74 rfl al74 GA75_ok

noncomputable def AE46 : Env := { Θ := Th, Γ := GA74, K := K46, ν := [], fuel := 64, lp := [] }
theorem al46 : Contract Try.prog 46 { sig := { ps := [], rs := [] }, impl := fun _ ds k => callN AE46 1 11 B46 R46 ds k, kind := .inl 1 } :=
  inl_contract (E := AE46) thOk GA74_ok mixed ok46 (loopsOk_of (l := []) (by kernel_rfl) trivial)
noncomputable def GA46 : Ctx := (46, { sig := { ps := [], rs := [] }, impl := fun _ ds k => callN AE46 1 11 B46 R46 ds k, kind := .inl 1 }) :: GA74
theorem GA46_ok : CtxOk Try.prog GA46 := ctxOk_cons ok46 rfl al46 GA74_ok

noncomputable def AE39 : Env := { Θ := Th, Γ := GA46, K := K39, ν := [(0, ⟨[], []⟩)], fuel := 64, lp := [] }
theorem al39 : Contract Try.prog 39 { sig := S39, impl := fun _ ds k => call AE39 S39 29 B39 R39 ds k } :=
  call_contract (E := AE39) thOk GA46_ok mixed ok39.look ok39.body ok39.n ok39.rv ok39.name rfl (by decide) (loopsOk_of (l := [(0, B39_0)]) (by kernel_rfl) (allOk_skip rfl trivial))
noncomputable def GA39 : Ctx := (39, { sig := S39, impl := fun _ ds k => call AE39 S39 29 B39 R39 ds k }) :: GA46
theorem GA39_ok : CtxOk Try.prog GA39 := ctxOk_cons ok39 rfl al39 GA46_ok

noncomputable def AE19 : Env := { Θ := Th, Γ := GA39, K := K19, ν := [(0, ⟨[], []⟩)], fuel := 64, lp := [] }
theorem al19 : Contract Try.prog 19 { sig := S19, impl := fun _ ds k => call AE19 S19 22 B19 R19 ds k } :=
  call_contract (E := AE19) thOk GA39_ok mixed ok19.look ok19.body ok19.n ok19.rv ok19.name rfl (by decide) (loopsOk_of (l := [(0, B19_0)]) (by kernel_rfl) (allOk_skip rfl trivial))
noncomputable def GA19 : Ctx := (19, { sig := S19, impl := fun _ ds k => call AE19 S19 22 B19 R19 ds k }) :: GA39
theorem GA19_ok : CtxOk Try.prog GA19 := ctxOk_cons ok19 rfl al19 GA39_ok

noncomputable def AE49 : Env := { Θ := Th, Γ := GA19, K := K49, ν := [(0, ⟨[], []⟩)], fuel := 64, lp := [] }
theorem al49 : Contract Try.prog 49 { sig := S49, impl := fun _ ds k => call AE49 S49 31 B49 R49 ds k } :=
  call_contract (E := AE49) thOk GA19_ok mixed ok49.look ok49.body ok49.n ok49.rv ok49.name rfl (by decide) (loopsOk_of (l := [(0, B49_0)]) (by kernel_rfl) (allOk_skip rfl trivial))
noncomputable def GA49 : Ctx := (49, { sig := S49, impl := fun _ ds k => call AE49 S49 31 B49 R49 ds k }) :: GA19
theorem GA49_ok : CtxOk Try.prog GA49 := ctxOk_cons ok49 rfl al49 GA19_ok

noncomputable def AE16 : Env := { Θ := Th, Γ := GA49, K := K16, ν := [(0, ⟨[], []⟩)], fuel := 64, lp := [] }
theorem al16 : Contract Try.prog 16 { sig := S16, impl := fun _ ds k => call AE16 S16 32 B16 R16 ds k } :=
  call_contract (E := AE16) thOk GA49_ok mixed ok16.look ok16.body ok16.n ok16.rv ok16.name rfl (by decide) (loopsOk_of (l := [(0, B16_0)]) (by kernel_rfl) (allOk_skip rfl trivial))
noncomputable def GA16 : Ctx := (16, { sig := S16, impl := fun _ ds k => call AE16 S16 32 B16 R16 ds k }) :: GA49
theorem GA16_ok : CtxOk Try.prog GA16 := ctxOk_cons ok16 rfl al16 GA49_ok

noncomputable def AE9 : Env := { Θ := Th, Γ := GA16, K := K9, ν := [(0, ⟨[], []⟩), (2, ⟨[], []⟩), (4, ⟨[], []⟩), (6, ⟨[], []⟩), (8, ⟨[], []⟩), (10, ⟨[], []⟩)], fuel := 64, lp := [] }
theorem al9 : Contract Try.prog 9 { sig := S9, impl := fun _ ds k => call AE9 S9 161 B9 R9 ds k } :=
  call_contract (E := AE9) thOk GA16_ok mixed ok9.look ok9.body ok9.n ok9.rv ok9.name rfl (by decide) (loopsOk_of (l := [(0, B9_0), (2, B9_2), (4, B9_4), (6, B9_6), (8, B9_8), (10, B9_10)]) (by kernel_rfl) (allOk_skip rfl (allOk_skip rfl (allOk_skip rfl (allOk_skip rfl (allOk_skip rfl (allOk_skip rfl trivial)))))))
noncomputable def GA9 : Ctx := (9, { sig := S9, impl := fun _ ds k => call AE9 S9 161 B9 R9 ds k }) :: GA16
theorem GA9_ok : CtxOk Try.prog GA9 := ctxOk_cons ok9 rfl al9 GA16_ok

noncomputable def AE47 : Env := { Θ := Th, Γ := GA9, K := K47, ν := [(0, ⟨[], []⟩)], fuel := 64, lp := [] }
theorem al47 : Contract Try.prog 47 { sig := S47, impl := fun _ ds k => call AE47 S47 38 B47 R47 ds k } :=
  call_contract (E := AE47) thOk GA9_ok mixed ok47.look ok47.body ok47.n ok47.rv ok47.name rfl (by decide) (loopsOk_of (l := [(0, B47_0)]) (by kernel_rfl) (allOk_skip rfl trivial))
noncomputable def GA47 : Ctx := (47, { sig := S47, impl := fun _ ds k => call AE47 S47 38 B47 R47 ds k }) :: GA9
theorem GA47_ok : CtxOk Try.prog GA47 := ctxOk_cons ok47 rfl al47 GA9_ok

noncomputable def AE50 : Env := { Θ := Th, Γ := GA47, K := K50, ν := [(0, ⟨[], []⟩), (2, ⟨[], []⟩), (4, ⟨[], []⟩)], fuel := 64, lp := [] }
theorem al50 : Contract Try.prog 50 { sig := S50, impl := fun _ ds k => call AE50 S50 95 B50 R50 ds k } :=
  call_contract (E := AE50) thOk GA47_ok mixed ok50.look ok50.body ok50.n ok50.rv ok50.name rfl (by decide) (loopsOk_of (l := [(0, B50_0), (2, B50_2), (4, B50_4)]) (by kernel_rfl) (allOk_skip rfl (allOk_skip rfl (allOk_skip rfl trivial))))
noncomputable def GA50 : Ctx := (50, { sig := S50, impl := fun _ ds k => call AE50 S50 95 B50 R50 ds k }) :: GA47
theorem GA50_ok : CtxOk Try.prog GA50 := ctxOk_cons ok50 rfl al50 GA47_ok

noncomputable def AE48 : Env := { Θ := Th, Γ := GA50, K := K48, ν := [(0, ⟨[], []⟩)], fuel := 64, lp := [] }
theorem al48 : Contract Try.prog 48 { sig := S48, impl := fun _ ds k => call AE48 S48 37 B48 R48 ds k } :=
  call_contract (E := AE48) thOk GA50_ok mixed ok48.look ok48.body ok48.n ok48.rv ok48.name rfl (by decide) (loopsOk_of (l := [(0, B48_0)]) (by kernel_rfl) (allOk_skip rfl trivial))
noncomputable def GA48 : Ctx := (48, { sig := S48, impl := fun _ ds k => call AE48 S48 37 B48 R48 ds k }) :: GA50
theorem GA48_ok : CtxOk Try.prog GA48 := ctxOk_cons ok48 rfl al48 GA50_ok

noncomputable def AE44 : Env := { Θ := Th, Γ := GA48, K := K44, ν := [], fuel := 64, lp := [] }
theorem al44 : Contract Try.prog 44 { sig := S44, impl := fun _ ds k => call AE44 S44 28 B44 R44 ds k } :=
  call_contract (E := AE44) thOk GA48_ok mixed ok44.look ok44.body ok44.n ok44.rv ok44.name rfl (by decide) (loopsOk_of (l := []) (by kernel_rfl) trivial)
noncomputable def GA44 : Ctx := (44, { sig := S44, impl := fun _ ds k => call AE44 S44 28 B44 R44 ds k }) :: GA48
theorem GA44_ok : CtxOk Try.prog GA44 := ctxOk_cons ok44 rfl al44 GA48_ok

noncomputable def AE24 : Env := { Θ := Th, Γ := GA44, K := K24, ν := [], fuel := 64, lp := [] }
theorem al24 : Contract Try.prog 24 { sig := S24, impl := fun _ ds k => call AE24 S24 29 B24 R24 ds k } :=
  call_contract (E := AE24) thOk GA44_ok mixed ok24.look ok24.body ok24.n ok24.rv ok24.name rfl (by decide) (loopsOk_of (l := []) (by kernel_rfl) trivial)
noncomputable def GA24 : Ctx := (24, { sig := S24, impl := fun _ ds k => call AE24 S24 29 B24 R24 ds k }) :: GA44
theorem GA24_ok : CtxOk Try.prog GA24 := ctxOk_cons ok24 rfl al24 GA44_ok

noncomputable def AE89 : Env := { Θ := Th, Γ := GA24, K := K89, ν := [(0, ⟨[], []⟩), (2, ⟨[], []⟩), (4, ⟨[], []⟩)], fuel := 64, lp := [] }
theorem al89 : Contract Try.prog 89 { sig := { ps := [], rs := [] }, impl := fun _ ds k => callN AE89 3 95 B89 R89 ds k, kind := .inl 3 } :=
  inl_contract (E := AE89) thOk GA24_ok mixed ok89 (loopsOk_of (l := [(0, B89_0), (2, B89_2), (4, B89_4)]) (by kernel_rfl) (allOk_skip rfl (allOk_skip rfl (allOk_skip rfl trivial))))
noncomputable def GA89 : Ctx := (89, { sig := { ps := [], rs := [] }, impl := fun _ ds k => callN AE89 3 95 B89 R89 ds k, kind := .inl 3 }) :: GA24
theorem GA89_ok : CtxOk Try.prog GA89 := ctxOk_cons ok89 rfl al89 GA24_ok

noncomputable def AE72 : Env := { Θ := Th, Γ := GA89, K := K72, ν := [(0, ⟨[], []⟩), (2, ⟨[], []⟩), (4, ⟨[], []⟩), (6, ⟨[], []⟩)], fuel := 64, lp := [] }
theorem al72 : Contract Try.prog 72 { sig := { ps := [], rs := [] }, impl := fun _ ds k => callN AE72 2 100 B72 R72 ds k, kind := .inl 2 } :=
  inl_contract (E := AE72) thOk GA89_ok mixed ok72 (loopsOk_of (l := [(0, B72_0), (2, B72_2), (4, B72_4), (6, B72_6)]) (by kernel_rfl) (allOk_skip rfl (allOk_skip rfl (allOk_skip rfl (allOk_skip rfl trivial)))))
noncomputable def GA72 : Ctx := (72, { sig := { ps := [], rs := [] }, impl := fun _ ds k => callN AE72 2 100 B72 R72 ds k, kind := .inl 2 }) :: GA89
theorem GA72_ok : CtxOk Try.prog GA72 := ctxOk_cons ok72 rfl al72 GA89_ok

noncomputable def AE90 : Env := { Θ := Th, Γ := GA72, K := K90, ν := [], fuel := 64, lp := [] }
theorem al90 : Contract Try.prog 90 { sig := S90, impl := fun _ ds k => call AE90 S90 8 B90 R90 ds k } :=
  call_contract (E := AE90) thOk GA72_ok mixed ok90.look ok90.body ok90.n ok90.rv ok90.name rfl (by decide) (loopsOk_of (l := []) (by kernel_rfl) trivial)
noncomputable def GA90 : Ctx := (90, { sig := S90, impl := fun _ ds k => call AE90 S90 8 B90 R90 ds k }) :: GA72
theorem GA90_ok : CtxOk Try.prog GA90 := ctxOk_cons ok90 rfl al90 GA72_ok

noncomputable def AE73 : Env := { Θ := Th, Γ := GA90, K := K73, ν := [(0, ⟨[], []⟩), (2, ⟨[], []⟩), (4, ⟨[], []⟩)], fuel := 64, lp := [] }
theorem al73 : Contract Try.prog 73 { sig := S73, impl := fun _ ds k => call AE73 S73 84 B73 R73 ds k } :=
  call_contract (E := AE73) thOk GA90_ok mixed ok73.look ok73.body ok73.n ok73.rv ok73.name rfl (by decide) (loopsOk_of (l := [(0, B73_0), (2, B73_2), (4, B73_4)]) (by kernel_rfl) (allOk_skip rfl (allOk_skip rfl (allOk_skip rfl trivial))))
noncomputable def GA73 : Ctx := (73, { sig := S73, impl := fun _ ds k => call AE73 S73 84 B73 R73 ds k }) :: GA90
theorem GA73_ok : CtxOk Try.prog GA73 := ctxOk_cons ok73 rfl al73 GA90_ok

noncomputable def AE45 : Env := { Θ := Th, Γ := GA73, K := K45, ν := [(0, ⟨[], []⟩), (2, ⟨[], []⟩)], fuel := 64, lp := [] }
theorem al45 : Contract Try.prog 45 { sig := S45, impl := fun _ ds k => call AE45 S45 106 B45 R45 ds k } :=
  call_contract (E := AE45) thOk GA73_ok mixed ok45.look ok45.body ok45.n ok45.rv ok45.name rfl (by decide) (loopsOk_of (l := [(0, B45_0), (2, B45_2)]) (by kernel_rfl) (allOk_skip rfl (allOk_skip rfl trivial)))
noncomputable def GA45 : Ctx := (45, { sig := S45, impl := fun _ ds k => call AE45 S45 106 B45 R45 ds k }) :: GA73
theorem GA45_ok : CtxOk Try.prog GA45 := ctxOk_cons ok45 rfl al45 GA73_ok

noncomputable def AE22 : Env := { Θ := Th, Γ := GA45, K := K22, ν := [(0, ⟨[], []⟩)], fuel := 64, lp := [] }
theorem al22 : Contract Try.prog 22 { sig := S22, impl := fun _ ds k => call AE22 S22 72 B22 R22 ds k } :=
  call_contract (E := AE22) thOk GA45_ok mixed ok22.look ok22.body ok22.n ok22.rv ok22.name rfl (by decide) (loopsOk_of (l := [(0, B22_0)]) (by kernel_rfl) (allOk_skip rfl trivial))
noncomputable def GA22 : Ctx := (22, { sig := S22, impl := fun _ ds k => call AE22 S22 72 B22 R22 ds k }) :: GA45
theorem GA22_ok : CtxOk Try.prog GA22 := ctxOk_cons ok22 rfl al22 GA45_ok

noncomputable def AE13 : Env := { Θ := Th, Γ := GA22, K := K13, ν := [], fuel := 64, lp := [] }
theorem al13 : Contract Try.prog 13 { sig := S13, impl := fun _ ds k => call AE13 S13 88 B13 R13 ds k } :=
  call_contract (E := AE13) thOk GA22_ok mixed ok13.look ok13.body ok13.n ok13.rv ok13.name rfl (by decide) (loopsOk_of (l := []) (by kernel_rfl) trivial)
end Go.Proofs.Ytogcijgklnfjjaa

namespace Go.Proofs.Ytogcijgklnfjjaa
open Go Go.Eng
set_option maxRecDepth 1000000

theorem alive_eq {R : Type} (k : List DV → Option R) : call AE13 S13 88 B13 R13 [] k = k [.v (.one (.bool true))] := by kernel_rfl
def I13 : (R : Type) → List DV → (List DV → Option R) → Option R := fun _ ds k => match ds with
  | [] => k [.v (.one (.bool true))]
  | _ => none
theorem c13 : Contract Try.prog 13 { sig := S13, impl := I13 } := by
  refine Contract.refine fun R ds k r h => ⟨_, al13, ?_⟩
  unfold I13 at h
  split at h
  · rw [alive_eq]; exact h
  · cases h
end Go.Proofs.Ytogcijgklnfjjaa

namespace Go.Proofs.Ytogcijgklnfjjaa
open Go Go.Eng
set_option maxRecDepth 100000
set_option linter.unusedVariables false

theorem f20_loop {R : Type} {N : Nat} (k1 : Bool → Int → List Int → List Int → Option R) {xs : List Int} {n : Nat} (hx : okF xs = true) (hn : xs.length / 32 = n) :
    ∀ j i : Nat, i + j = n → ∀ fuel, j < fuel → f20_0_lp N k1 fuel (i : Int) (arrN (numF xs) i) xs = k1 false (n : Int) (arrN (numF xs) n) xs := by
  have hl := okF_n hx
  intro j
  induction j with
  | zero =>
    intro i h fuel hf
    obtain ⟨f, rfl⟩ : ∃ f, fuel = f + 1 := ⟨fuel - 1, by omega⟩
    show f20_0_st N (f20_0_lp N _ f) _ _ _ _ = _
    unfold f20_0_st
    rw [rows32 hx, hn, ltF (by omega), cond_false, show i = n by omega]
  | succ j ih =>
    intro i h fuel hf
    obtain ⟨f, rfl⟩ : ∃ f, fuel = f + 1 := ⟨fuel - 1, by omega⟩
    show f20_0_st N (f20_0_lp N _ f) _ _ _ _ = _
    unfold f20_0_st
    have e1 : List.take 32 (List.drop (i * 32) xs) = elF xs i := rfl
    have e2 : rowLen 32 (arrN (numF xs) i) = i := arr_div _ _
    have e3 : splice (zerosOf (1 * 32)) (Off.at (0 * 32)) (sN (numF xs i)) = sN (numF xs i) := by
      have := arr_set (fun _ => 0) (numF xs i) (show 0 < 1 by omega)
      rw [← arr_zero] at this
      rw [this]
      show [] ++ sN (upd (fun _ => 0) 0 (numF xs i) 0) = _
      rw [upd_self]; rfl
    have e4 : addN (vS (elF xs i)) 0 = numF xs i := by
      show addN (vS (elF xs i)) 0 = vS (elF xs i)
      apply q_inj (addN_lt _ _) (vS_lt _)
      rw [q_add, q_zero]; grind
    have e5 : rowLen 32 (sN (numF xs i)) = 1 := by show (sN _).length / 32 = 1; rw [sN_len]
    have hle : (Nat.ble ((2 * (i + 1) + 192) * 32) big48 && Nat.ble (i + 1) big48) = true := by
      rw [Bool.and_eq_true, Nat.ble_eq, Nat.ble_eq]; unfold big48; omega
    rw [rows32 hx, hn, ltT (show i < n by omega), ge0, toN, e1, okF_el hx (by omega), okB_z, vS_z, e4, e3]
    dsimp only
    rw [e2, e5, hle, wAdd (by omega), ← arr_succ]
    simp only [Bool.and_self, cond_true]
    exact ih (i + 1) (by omega) f (by omega)
noncomputable def canG (xs : List Int) : List Int := arrN (numF xs) (xs.length / 32)
noncomputable def I20 : (R : Type) → List DV → (List DV → Option R) → Option R := fun _ ds k => match ds with
  | [.lst (.one .u8) 32 xs] => bif okF xs then k [.lst (.one .u8) 32 (canG xs)] else none
  | _ => none
theorem c20 : Contract Try.prog 20 { sig := S20, impl := I20 } := by
  refine Contract.refine fun R ds k r h => ?_
  unfold I20 at h
  split at h
  · rename_i xs
    refine ⟨_, f20_contract (xs.length / 32 + 1) GRX_ok, ?_⟩
    cases hc : okF xs with
    | false => rw [hc] at h; cases h
    | true =>
      rw [hc, cond_true] at h
      rw [f20_raw_eq]
      exact (f20_loop (N := xs.length / 32 + 1) _ hc rfl (xs.length / 32) 0 (by omega) (xs.length / 32 + 1) (by omega)).trans h
  · exact (Option.some_ne_none _ h.symm).elim
def noFI : FI := { sig := { ps := [], rs := [] }, impl := fun _ _ _ => none }
theorem ctxOk_prune {Γ : Ctx} (h : CtxOk Try.prog Γ) : CtxOk Try.prog ((999999, noFI) :: Γ) := by
  intro g fi hg
  unfold findF at hg
  split at hg
  · injection hg with hg; subst hg
    refine ⟨fun R ds k r hr => ?_, rfl⟩
    cases (show (none : Option R) = some r from hr)
  · exact h g fi hg
noncomputable def GL7_0 : Ctx := (12, { sig := S12, impl := I12 }) :: (13, { sig := S13, impl := I13 }) :: (16, { sig := S16, impl := I16 }) :: (18, { sig := S18, impl := I18 }) :: (19, { sig := S19, impl := I19 }) :: (20, { sig := S20, impl := I20 }) :: (24, { sig := S24, impl := I24 }) :: (25, { sig := S25, impl := I25 }) :: (26, { sig := S26, impl := I26 }) :: []
theorem GL7_ok0 : CtxOk Try.prog GL7_0 := ctxOk_cons ok12 rfl c12 (ctxOk_cons ok13 rfl c13 (ctxOk_cons ok16 rfl c16 (ctxOk_cons ok18 rfl c18 (ctxOk_cons ok19 rfl c19 (ctxOk_cons ok20 rfl c20 (ctxOk_cons ok24 rfl c24 (ctxOk_cons ok25 rfl c25 (ctxOk_cons ok26 rfl c26 ctxOk_nil))))))))
noncomputable def GL7 : Ctx := (999999, noFI) :: GL7_0
theorem GL7_ok : CtxOk Try.prog GL7 := ctxOk_prune GL7_ok0
def start7 (n : Nat) (a ids x : List Int) : AS := { n := n, lo := 0, tmps := [(0, va (.own 0)), (1, va (.own 1)), (2, va (.ints .u8 32 x))], items := [(0, .view (.one .u8) 32 a), (1, .view (.one .i64) 1 ids)] }
end Go.Proofs.Ytogcijgklnfjjaa

namespace Go.Proofs.Ytogcijgklnfjjaa
open Go Go.Eng
set_option maxRecDepth 100000
end Go.Proofs.Ytogcijgklnfjjaa

namespace Go.Proofs.Ytogcijgklnfjjaa
open Go Go.Eng
set_option maxRecDepth 100000
set_option linter.unusedVariables false

end Go.Proofs.Ytogcijgklnfjjaa

namespace Go.Proofs.Ytogcijgklnfjjaa
open Go Go.Eng
set_option maxRecDepth 100000
set_option linter.unusedVariables false

theorem horN_q (xs : List Int) (v : Nat) : ∀ (i r : Nat), q (horN xs v i r) = q r * pw (q v) i + ev i (fun j => q (numF xs j)) (q v)
  | 0, r => by
    have e : ev 0 (fun j => q (numF xs j)) (q v) = 0 := rfl
    have e2 : pw (q v) 0 = 1 := rfl
    rw [e, e2]; show q r = _; grind
  | i + 1, r => by
    have e : horN xs v (i + 1) r = horN xs v i (addN (mulN r v) (vS (elF xs i))) := rfl
    have e2 : pw (q v) (i + 1) = q v * pw (q v) i := rfl
    rw [e, horN_q xs v i, q_add, q_mul, ev_snoc, e2, show vS (elF xs i) = numF xs i from rfl]; grind
theorem evN_q (xs : List Int) (v : Nat) : q (evN xs v) = ev (xs.length / 32) (fun j => q (numF xs j)) (q v) := by
  unfold evN
  rw [horN_q, q_zero]; grind

end Go.Proofs.Ytogcijgklnfjjaa

namespace Go.Proofs.Ytogcijgklnfjjaa
open Go Go.Eng
set_option maxRecDepth 100000
set_option linter.unusedVariables false

theorem pxN_q {X : Nat → Nat} (hX : LtE X) (i v : Nat) : ∀ (j k a : Nat), q (pxN X i v j k a) = q a * prx (fun i => q (X i)) i (q v) j k
  | 0, k, a => by
    show q a = q a * 1
    grind
  | j + 1, k, a => by
    have e : pxN X i v (j + 1) k a = pxN X i v j (k + 1) (if k = i then a else mulN a (difN v (X k))) := rfl
    have e2 : prx (fun i => q (X i)) i (q v) (j + 1) k = (if k = i then 1 else q v - q (X k)) * prx (fun i => q (X i)) i (q v) j (k + 1) := rfl
    rw [e, e2, pxN_q hX i v j (k + 1)]
    by_cases hk : k = i
    · rw [if_pos hk, if_pos hk]; grind
    · rw [if_neg hk, if_neg hk, q_mul, q_dif _ (hX k)]; grind
theorem basG_q {X : Nat → Nat} (hX : LtE X) (v n i : Nat) : q (basG X v n i) = prx (fun i => q (X i)) i (q v) n 0 * qi (prx (fun i => q (X i)) i (q (X i)) n 0) := by
  have h1 : pxN X i (X i) n 0 1 < ell := pxN_lt _ _ _ one_lt_ell
  unfold basG
  rw [q_mul, q_inv h1, pxN_q hX, pxN_q hX, q_one]; grind
theorem val_coefs {X Y : Nat → Nat} (hX : LtE X) (hY : LtE Y) (v n : Nat) : ∀ m, m ≤ n → ev n (fun t => q (iterF (coefSt X Y n) m 0 (fun _ => 0) t)) (q v) = q (valG X Y v n m)
  | 0, _ => by
    show ev n (fun t => q 0) (q v) = q 0
    rw [q_zero, ev_zero]
  | m + 1, h => by
    rw [iterF_last, Nat.zero_add, coefSt_ev hX hY (by omega) (iterF_inv (fun k g h => coefSt_lt h) _ _ _ ltE_zero), val_coefs hX hY v n m (by omega)]
    have e : valG X Y v n (m + 1) = addN (valG X Y v n m) (mulN (basG X v n m) (Y m)) := rfl
    rw [e, q_add, q_mul, basG_q hX]; grind
theorem val_of {X Y : Nat → Nat} (hX : LtE X) (hY : LtE Y) {n : Nat} {c : Nat → Q} (hd : ∀ i j, i < j → j < n → X i ≠ X j) (hc : ∀ l, l < n → q (Y l) = ev n c (q (X l))) :
    (∀ i, i < n → q (coefG X Y n i) = c i) ∧ ∀ v, q (valG X Y v n n) = ev n c (q v) := by
  have h1 := unique (n := n) (c := fun j => q (coefG X Y n j)) (d := c) (r := fun i => q (X i)) (fun l hl => by rw [coefG_at hX hY hl hd, hc l hl]) (fun a b h1 h2 => q_ne (hX a) (hX b) (hd a b h1 h2))
  refine ⟨h1, fun v => ?_⟩
  rw [← val_coefs hX hY v n n (Nat.le_refl _)]
  exact ev_congr h1
theorem valG_lt (X Y : Nat → Nat) (v n : Nat) : ∀ m, valG X Y v n m < ell
  | 0 => ell_pos
  | m + 1 => addN_lt _ _
theorem ev_at0 {n : Nat} (h : 1 ≤ n) (c : Nat → Q) : ev n c 0 = c 0 := by
  obtain ⟨m, rfl⟩ : ∃ m, n = m + 1 := ⟨n - 1, by omega⟩
  show c 0 + 0 * _ = c 0
  grind
theorem val_num {a : List Int} {X Y : Nat → Nat} (hX : LtE X) {n : Nat} (hn : a.length / 32 = n) (hd : ∀ i j, i < j → j < n → X i ≠ X j) (hY : LtE Y) (hc : ∀ l, l < n → Y l = evN a (X l)) :
    (∀ i, i < n → coefG X Y n i = numF a i) ∧ ∀ v, valG X Y v n n = evN a v := by
  obtain ⟨h1, h2⟩ := val_of (c := fun j => q (numF a j)) hX hY hd fun l hl => by rw [hc l hl, evN_q, hn]
  refine ⟨fun i hi => q_inj (coefG_lt X Y n i) (numF_lt a i) (h1 i hi), fun v => q_inj (valG_lt _ _ _ _ _) (evN_lt _ _) ?_⟩
  rw [h2, evN_q, hn]
theorem evN_zero {a : List Int} (h : 1 ≤ a.length / 32) : evN a 0 = numF a 0 := by
  apply q_inj (evN_lt _ _) (numF_lt a 0)
  rw [evN_q, q_zero, ev_at0 h]
theorem evN_arr {a : List Int} {f : Nat → Nat} {n : Nat} (hf : LtE f) (hn : a.length / 32 = n) (h : ∀ i, i < n → f i = numF a i) (v : Nat) : evN (arrN f n) v = evN a v := by
  apply q_inj (evN_lt _ _) (evN_lt _ _)
  rw [evN_q, evN_q, arr_div, hn]
  exact ev_congr fun i hi => by rw [numF_arr hf hi, h i hi]
theorem onG_all {p c : List Int} : ∀ {j i : Nat}, (∀ l, i ≤ l → l < i + j → evN c (pX p l) = pY p l) → onG p c j i = true
  | 0, _, _ => rfl
  | j + 1, i, h => by
    show (decide (evN c (pX p i) = pY p i) && onG p c j (i + 1)) = true
    rw [decide_eq_true (h i (by omega) (by omega)), onG_all fun l h1 h2 => h l (by omega) (by omega)]; rfl

theorem idsE_of {xs : List Int} (hr : ∀ k, k < xs.length → 1 ≤ xs.getD k 0 ∧ xs.getD k 0 ≤ 255) (hn : ∀ a b, a < b → b < xs.length → xs.getD a 0 ≠ xs.getD b 0) : ∀ j i : Nat, i + j = xs.length → idsE xs j i = 0
  | 0, _, _ => rfl
  | j + 1, i, h => by
    unfold idsE
    have := hr i (by omega)
    rw [decide_eq_false (show ¬ xs.getD i 0 < 1 by omega), decide_eq_false (show ¬ xs.getD i 0 > 255 by omega), Bool.or_self, cond_false]
    cases hq : dupF xs i i 0 with
    | true =>
      obtain ⟨a, h1, h2, h3⟩ := dupF_iff.1 hq
      exact absurd h3 (hn a i (by omega) (by omega))
    | false => rw [cond_false]; exact idsE_of hr hn j (i + 1) (by omega)
theorem ids_of {xs : List Int} (h : IdsOk xs) : idsN xs = 0 := by
  unfold idsN
  have := h.pos
  cases hq : Nat.beq xs.length 0 with
  | true => have := Nat.eq_of_beq_eq_true hq; omega
  | false => exact idsE_of h.rng h.ne _ _ (by omega)
theorem list_ext0 {a b : List Int} (hl : a.length = b.length) (h : ∀ i, i < a.length → a.getD i 0 = b.getD i 0) : a = b := by
  apply List.ext_getElem hl
  intro i h1 h2
  have := h i h1
  rw [List.getD_eq_getElem?_getD, List.getD_eq_getElem?_getD, List.getElem?_eq_getElem h1, List.getElem?_eq_getElem h2] at this
  exact this

theorem shG_okS {d : Nat → Int} {f : Nat → Nat} {n : Nat} (h : n ≤ 2000000) : okS (shG d f n) = true := by
  unfold okS
  rw [shG_div, shG_len, Bool.and_eq_true, Bool.and_eq_true]
  refine ⟨⟨?_, Nat.ble_eq_true_of_le (by omega)⟩, allB_iff.2 fun i hi => ?_⟩
  · rw [show n * 33 % 33 = 0 by omega]; rfl
  · unfold shV; rw [shG_val d f hi]; exact okB_sN _
theorem shG_ids {d : Nat → Int} {f : Nat → Nat} {n : Nat} : ∀ i, i < n → (ids33 (shG d f n)).getD i 0 = d i := fun i hi => by
  unfold ids33
  rw [shG_div, idsS_get _ hi]
  unfold shId
  rw [shG_id d f hi]
theorem shG_idsL {d : Nat → Int} {f : Nat → Nat} {n : Nat} : (ids33 (shG d f n)).length = n := by
  unfold ids33
  rw [shG_div, idsS_len]
theorem shG_pts {d : Nat → Int} {f : Nat → Nat} {n : Nat} (hf : LtE f) (h : n ≤ 2000000) : ∀ i, i < n → pX (P33 (shG d f n)) i = plN (d i) ∧ pY (P33 (shG d f n)) i = f i := fun i hi => by
  have hs := shG_okS (d := d) (f := f) h
  have := pts_x hs (i := i) (by rw [shG_div]; exact hi)
  unfold P33
  rw [this.1, this.2]
  unfold plF
  rw [shG_div, idsS_get _ hi]
  unfold shId shV
  rw [shG_id d f hi, shG_val d f hi, vS_sN (hf i)]
  exact ⟨rfl, rfl⟩
theorem headG_back (g : Nat → List Int) (m : Nat) : ∀ t, headG g (m + t) = headG g m ++ headG (fun i => g (m + i)) t
  | 0 => by show headG g m = headG g m ++ []; rw [List.append_nil]
  | t + 1 => by
    show headG g (m + t) ++ g (m + t) = headG g m ++ (headG (fun i => g (m + i)) t ++ g (m + t))
    rw [headG_back g m t, List.append_assoc]
theorem shG_tail (d : Nat → Int) (f : Nat → Nat) (m t : Nat) : (shG d f (m + t)).drop (m * 33) = shG (fun i => d (m + i)) (fun i => f (m + i)) t := by
  unfold shG
  rw [headG_back, List.drop_left' (headG_lenK (fun i => by rw [List.length_cons, sN_len]) m)]
end Go.Proofs.Ytogcijgklnfjjaa

namespace Go.Proofs.Ytogcijgklnfjjaa
open Go Go.Eng
set_option maxRecDepth 100000
set_option linter.unusedVariables false

noncomputable def f7_raw {R : Type} (N : Nat) (a : List Int) (ids : List Int) (x : List Int) (k : List DV → Option R) : Option R :=
 bif okF a && ids.length.ble 1073741823 then
 bif Decidable.decide (idsN ids = 0) then
 let v0 : Bool := bif Bool.false then Bool.true else Decidable.decide (nI (rowLen 32 a) < 1);
 bif v0 then bif ids.length.ble 1073741824 then k [DV.v (SV.one (At.bool (0 == idsN ids)))] else Option.none
 else
 let v1 : Bool := bif Bool.false then Bool.true else Decidable.decide (nI (rowLen 1 ids) < nI (rowLen 32 a));
 bif v1 then bif ids.length.ble 1073741824 then k [DV.v (SV.one (At.bool (0 == idsN ids)))] else Option.none
 else
 bif okS (splitG a ids) then
 bif Decidable.decide (thrE (nI (rowLen 32 a)) = 0) then
 bif Decidable.decide (nI ((splitG a ids).length / 33) < nI (rowLen 32 a)) then
 let v2 : Int := IntKind.i64.wrap (nI (rowLen 33 (splitG a ids)) - nI (rowLen 32 a));
 bif loOk (Option.some v2) (hiInt Option.none (rowLen 33 (splitG a ids))) then
 let v3 : List Int := Go.Eng.sub (splitG a ids) (Off.el v2.toNat 33 0) (Go.Eng.subN (hiNat Option.none (rowLen 33 (splitG a ids))) (Option.some v2) * 33);
 bif okS v3 && okB x then bif Decidable.decide (idsN (ids33 v3) = 0) then bif okS (splitG a ids) then bif Decidable.decide (thrE (nI (rowLen 32 a)) = 0) then bif Decidable.decide (nI ((splitG a ids).length / 33) < 1) then Option.none else bif Decidable.decide (idsN (ids33 (splitG a ids)) = 0) then Option.none else Option.none else Option.none else Option.none else bif okS (splitG a ids) then bif Decidable.decide (thrE (nI (rowLen 32 a)) = 0) then bif Decidable.decide (nI ((splitG a ids).length / 33) < 1) then Option.none else bif Decidable.decide (idsN (ids33 (splitG a ids)) = 0) then Option.none else Option.none else Option.none else Option.none else Option.none
 else Option.none
 else
 bif Decidable.decide (idsN (ids33 (splitG a ids)) = 0) then
 bif onB (splitG a ids) (nI (rowLen 32 a)).toNat then
 let v4 : Int := IntKind.i64.wrap (nI (rowLen 33 (splitG a ids)) - nI (rowLen 32 a));
 bif loOk (Option.some v4) (hiInt Option.none (rowLen 33 (splitG a ids))) then
 let v5 : List Int := Go.Eng.sub (splitG a ids) (Off.el v4.toNat 33 0) (Go.Eng.subN (hiNat Option.none (rowLen 33 (splitG a ids))) (Option.some v4) * 33);
 bif okS v5 && okB x then
 bif Decidable.decide (idsN (ids33 v5) = 0) then
 bif okS (splitG a ids) then
 bif Decidable.decide (thrE (nI (rowLen 32 a)) = 0) then
 bif Decidable.decide (nI ((splitG a ids).length / 33) < 1) then Option.none
 else
 bif Decidable.decide (idsN (ids33 (splitG a ids)) = 0) then
 let v6 : Bool := bif Bool.true then onB (splitG a ids) (nI (rowLen 32 a)).toNat else Bool.false;
 bif v6 then
 bif okF a then
 bif Decidable.decide (0 ≤ 0) && Decidable.decide (0 < nI (rowLen 32 (canG a))) then
 let v7 : Bool := bif Bool.true then Decidable.decide (sN (valG (pX (P33 (splitG a ids))) (pY (P33 (splitG a ids))) 0 (nI (rowLen 32 a)).toNat (nI (rowLen 32 a)).toNat) = List.take 32 (List.drop (mulE (Int.toNat 0) 32) (canG a))) else Bool.false;
 bif v7 then
 bif okF a && okB x then
 let v8 : Bool := bif Bool.true then Decidable.decide (sN (valG (pX (P33 v5)) (pY (P33 v5)) (vS x) (v5.length / 33) (v5.length / 33)) = sN (evN a (vS x))) else Bool.false;
 k [DV.v (SV.one (At.bool v8))]
 else Option.none
 else Option.none
 else Option.none
 else Option.none
 else Option.none
 else
 let v9 : Bool := bif Bool.true then idsN (ids33 (splitG a ids)) == 0 else Bool.false;
 bif v9 then Option.none else Option.none
 else
 let v10 : Bool := bif Bool.true then thrE (nI (rowLen 32 a)) == 0 else Bool.false;
 bif v10 then Option.none else Option.none
 else Option.none
 else
 bif okS (splitG a ids) then
 bif Decidable.decide (thrE (nI (rowLen 32 a)) = 0) then
 bif Decidable.decide (nI ((splitG a ids).length / 33) < 1) then
 let v11 : Bool := bif Bool.true then idsN (ids33 v5) == 0 else Bool.false;
 bif v11 then Option.none else Option.none
 else
 bif Decidable.decide (idsN (ids33 (splitG a ids)) = 0) then
 let v12 : Bool := bif Bool.true then idsN (ids33 v5) == 0 else Bool.false;
 bif v12 then
 let v13 : Bool := bif Bool.true then onB (splitG a ids) (nI (rowLen 32 a)).toNat else Bool.false;
 bif v13 then
 bif okF a then
 bif Decidable.decide (0 ≤ 0) && Decidable.decide (0 < nI (rowLen 32 (canG a))) then
 let v14 : Bool := bif Bool.true then Decidable.decide (sN (valG (pX (P33 (splitG a ids))) (pY (P33 (splitG a ids))) 0 (nI (rowLen 32 a)).toNat (nI (rowLen 32 a)).toNat) = List.take 32 (List.drop (mulE (Int.toNat 0) 32) (canG a))) else Bool.false;
 bif v14 then
 bif okF a && okB x then
 let v15 : Bool := bif Bool.true then Decidable.decide (zS = sN (evN a (vS x))) else Bool.false;
 k [DV.v (SV.one (At.bool v15))]
 else Option.none
 else Option.none
 else Option.none
 else Option.none
 else Option.none
 else Option.none
 else
 let v16 : Bool := bif Bool.true then idsN (ids33 v5) == 0 else Bool.false;
 bif v16 then
 let v17 : Bool := bif Bool.true then idsN (ids33 (splitG a ids)) == 0 else Bool.false;
 bif v17 then Option.none else Option.none
 else Option.none
 else
 let v18 : Bool := bif Bool.true then idsN (ids33 v5) == 0 else Bool.false;
 bif v18 then
 let v19 : Bool := bif Bool.true then thrE (nI (rowLen 32 a)) == 0 else Bool.false;
 bif v19 then Option.none else Option.none
 else Option.none
 else Option.none
 else Option.none
 else Option.none
 else
 let v20 : Int := IntKind.i64.wrap (nI (rowLen 33 (splitG a ids)) - nI (rowLen 32 a));
 bif loOk (Option.some v20) (hiInt Option.none (rowLen 33 (splitG a ids))) then
 let v21 : List Int := Go.Eng.sub (splitG a ids) (Off.el v20.toNat 33 0) (Go.Eng.subN (hiNat Option.none (rowLen 33 (splitG a ids))) (Option.some v20) * 33);
 bif okS v21 && okB x then bif Decidable.decide (idsN (ids33 v21) = 0) then bif okS (splitG a ids) then bif Decidable.decide (thrE (nI (rowLen 32 a)) = 0) then bif Decidable.decide (nI ((splitG a ids).length / 33) < 1) then Option.none else bif Decidable.decide (idsN (ids33 (splitG a ids)) = 0) then Option.none else Option.none else Option.none else Option.none else bif okS (splitG a ids) then bif Decidable.decide (thrE (nI (rowLen 32 a)) = 0) then bif Decidable.decide (nI ((splitG a ids).length / 33) < 1) then Option.none else bif Decidable.decide (idsN (ids33 (splitG a ids)) = 0) then Option.none else Option.none else Option.none else Option.none else Option.none
 else Option.none
 else
 let v22 : Int := IntKind.i64.wrap (nI (rowLen 33 (splitG a ids)) - nI (rowLen 32 a));
 bif loOk (Option.some v22) (hiInt Option.none (rowLen 33 (splitG a ids))) then
 let v23 : List Int := Go.Eng.sub (splitG a ids) (Off.el v22.toNat 33 0) (Go.Eng.subN (hiNat Option.none (rowLen 33 (splitG a ids))) (Option.some v22) * 33);
 bif okS v23 && okB x then
 bif Decidable.decide (idsN (ids33 v23) = 0) then
 bif okS (splitG a ids) then
 bif Decidable.decide (thrE (nI (rowLen 32 a)) = 0) then
 bif Decidable.decide (nI ((splitG a ids).length / 33) < 1) then bif idsN (ids33 (splitG a ids)) == 0 then Option.none else Option.none
 else
 bif Decidable.decide (idsN (ids33 (splitG a ids)) = 0) then
 bif idsN (ids33 (splitG a ids)) == 0 then
 let v24 : Bool := bif Bool.true then onB (splitG a ids) (nI (rowLen 32 a)).toNat else Bool.false;
 bif v24 then
 bif okF a then
 bif Decidable.decide (0 ≤ 0) && Decidable.decide (0 < nI (rowLen 32 (canG a))) then
 let v25 : Bool := bif Bool.true then Decidable.decide (zS = List.take 32 (List.drop (mulE (Int.toNat 0) 32) (canG a))) else Bool.false;
 bif v25 then
 bif okF a && okB x then
 let v26 : Bool := bif Bool.true then Decidable.decide (sN (valG (pX (P33 v23)) (pY (P33 v23)) (vS x) (v23.length / 33) (v23.length / 33)) = sN (evN a (vS x))) else Bool.false;
 k [DV.v (SV.one (At.bool v26))]
 else Option.none
 else Option.none
 else Option.none
 else Option.none
 else Option.none
 else Option.none
 else
 bif idsN (ids33 (splitG a ids)) == 0 then
 let v27 : Bool := bif Bool.true then idsN (ids33 (splitG a ids)) == 0 else Bool.false;
 bif v27 then Option.none else Option.none
 else Option.none
 else
 bif idsN (ids33 (splitG a ids)) == 0 then
 let v28 : Bool := bif Bool.true then thrE (nI (rowLen 32 a)) == 0 else Bool.false;
 bif v28 then Option.none else Option.none
 else Option.none
 else Option.none
 else
 bif okS (splitG a ids) then
 bif Decidable.decide (thrE (nI (rowLen 32 a)) = 0) then
 bif Decidable.decide (nI ((splitG a ids).length / 33) < 1) then
 bif idsN (ids33 (splitG a ids)) == 0 then
 let v29 : Bool := bif Bool.true then idsN (ids33 v23) == 0 else Bool.false;
 bif v29 then Option.none else Option.none
 else Option.none
 else
 bif Decidable.decide (idsN (ids33 (splitG a ids)) = 0) then
 bif idsN (ids33 (splitG a ids)) == 0 then
 let v30 : Bool := bif Bool.true then idsN (ids33 v23) == 0 else Bool.false;
 bif v30 then
 let v31 : Bool := bif Bool.true then onB (splitG a ids) (nI (rowLen 32 a)).toNat else Bool.false;
 bif v31 then
 bif okF a then
 bif Decidable.decide (0 ≤ 0) && Decidable.decide (0 < nI (rowLen 32 (canG a))) then
 let v32 : Bool := bif Bool.true then Decidable.decide (zS = List.take 32 (List.drop (mulE (Int.toNat 0) 32) (canG a))) else Bool.false;
 bif v32 then
 bif okF a && okB x then
 let v33 : Bool := bif Bool.true then Decidable.decide (zS = sN (evN a (vS x))) else Bool.false;
 k [DV.v (SV.one (At.bool v33))]
 else Option.none
 else Option.none
 else Option.none
 else Option.none
 else Option.none
 else Option.none
 else Option.none
 else
 bif idsN (ids33 (splitG a ids)) == 0 then
 let v34 : Bool := bif Bool.true then idsN (ids33 v23) == 0 else Bool.false;
 bif v34 then
 let v35 : Bool := bif Bool.true then idsN (ids33 (splitG a ids)) == 0 else Bool.false;
 bif v35 then Option.none else Option.none
 else Option.none
 else Option.none
 else
 bif idsN (ids33 (splitG a ids)) == 0 then
 let v36 : Bool := bif Bool.true then idsN (ids33 v23) == 0 else Bool.false;
 bif v36 then
 let v37 : Bool := bif Bool.true then thrE (nI (rowLen 32 a)) == 0 else Bool.false;
 bif v37 then Option.none else Option.none
 else Option.none
 else Option.none
 else Option.none
 else Option.none
 else Option.none
 else
 let v38 : Int := IntKind.i64.wrap (nI (rowLen 33 (splitG a ids)) - nI (rowLen 32 a));
 bif loOk (Option.some v38) (hiInt Option.none (rowLen 33 (splitG a ids))) then
 let v39 : List Int := Go.Eng.sub (splitG a ids) (Off.el v38.toNat 33 0) (Go.Eng.subN (hiNat Option.none (rowLen 33 (splitG a ids))) (Option.some v38) * 33);
 bif okS v39 && okB x then
 bif Decidable.decide (idsN (ids33 v39) = 0) then
 bif okS (splitG a ids) then
 bif Decidable.decide (thrE (nI (rowLen 32 a)) = 0) then
 bif Decidable.decide (nI ((splitG a ids).length / 33) < 1) then bif thrE (nI (rowLen 32 a)) == 0 then Option.none else Option.none
 else
 bif Decidable.decide (idsN (ids33 (splitG a ids)) = 0) then
 bif thrE (nI (rowLen 32 a)) == 0 then
 let v40 : Bool := bif Bool.true then onB (splitG a ids) (nI (rowLen 32 a)).toNat else Bool.false;
 bif v40 then
 bif okF a then
 bif Decidable.decide (0 ≤ 0) && Decidable.decide (0 < nI (rowLen 32 (canG a))) then
 let v41 : Bool := bif Bool.true then Decidable.decide (zS = List.take 32 (List.drop (mulE (Int.toNat 0) 32) (canG a))) else Bool.false;
 bif v41 then
 bif okF a && okB x then
 let v42 : Bool := bif Bool.true then Decidable.decide (sN (valG (pX (P33 v39)) (pY (P33 v39)) (vS x) (v39.length / 33) (v39.length / 33)) = sN (evN a (vS x))) else Bool.false;
 k [DV.v (SV.one (At.bool v42))]
 else Option.none
 else Option.none
 else Option.none
 else Option.none
 else Option.none
 else Option.none
 else
 bif thrE (nI (rowLen 32 a)) == 0 then
 let v43 : Bool := bif Bool.true then idsN (ids33 (splitG a ids)) == 0 else Bool.false;
 bif v43 then Option.none else Option.none
 else Option.none
 else
 bif thrE (nI (rowLen 32 a)) == 0 then
 let v44 : Bool := bif Bool.true then thrE (nI (rowLen 32 a)) == 0 else Bool.false;
 bif v44 then Option.none else Option.none
 else Option.none
 else Option.none
 else
 bif okS (splitG a ids) then
 bif Decidable.decide (thrE (nI (rowLen 32 a)) = 0) then
 bif Decidable.decide (nI ((splitG a ids).length / 33) < 1) then
 bif thrE (nI (rowLen 32 a)) == 0 then
 let v45 : Bool := bif Bool.true then idsN (ids33 v39) == 0 else Bool.false;
 bif v45 then Option.none else Option.none
 else Option.none
 else
 bif Decidable.decide (idsN (ids33 (splitG a ids)) = 0) then
 bif thrE (nI (rowLen 32 a)) == 0 then
 let v46 : Bool := bif Bool.true then idsN (ids33 v39) == 0 else Bool.false;
 bif v46 then
 let v47 : Bool := bif Bool.true then onB (splitG a ids) (nI (rowLen 32 a)).toNat else Bool.false;
 bif v47 then
 bif okF a then
 bif Decidable.decide (0 ≤ 0) && Decidable.decide (0 < nI (rowLen 32 (canG a))) then
 let v48 : Bool := bif Bool.true then Decidable.decide (zS = List.take 32 (List.drop (mulE (Int.toNat 0) 32) (canG a))) else Bool.false;
 bif v48 then
 bif okF a && okB x then
 let v49 : Bool := bif Bool.true then Decidable.decide (zS = sN (evN a (vS x))) else Bool.false;
 k [DV.v (SV.one (At.bool v49))]
 else Option.none
 else Option.none
 else Option.none
 else Option.none
 else Option.none
 else Option.none
 else Option.none
 else
 bif thrE (nI (rowLen 32 a)) == 0 then
 let v50 : Bool := bif Bool.true then idsN (ids33 v39) == 0 else Bool.false;
 bif v50 then
 let v51 : Bool := bif Bool.true then idsN (ids33 (splitG a ids)) == 0 else Bool.false;
 bif v51 then Option.none else Option.none
 else Option.none
 else Option.none
 else
 bif thrE (nI (rowLen 32 a)) == 0 then
 let v52 : Bool := bif Bool.true then idsN (ids33 v39) == 0 else Bool.false;
 bif v52 then
 let v53 : Bool := bif Bool.true then thrE (nI (rowLen 32 a)) == 0 else Bool.false;
 bif v53 then Option.none else Option.none
 else Option.none
 else Option.none
 else Option.none
 else Option.none
 else Option.none
 else Option.none
 else
 bif idsN ids != 0 then bif ids.length.ble 1073741824 then k [DV.v (SV.one (At.bool (idsN ids == idsN ids)))] else Option.none
 else
 let v54 : Bool := bif Bool.false then Bool.true else Decidable.decide (nI (rowLen 32 a) < 1);
 bif v54 then bif ids.length.ble 1073741824 then k [DV.v (SV.one (At.bool (idsN ids == idsN ids)))] else Option.none
 else
 let v55 : Bool := bif Bool.false then Bool.true else Decidable.decide (nI (rowLen 1 ids) < nI (rowLen 32 a));
 bif v55 then bif ids.length.ble 1073741824 then k [DV.v (SV.one (At.bool (idsN ids == idsN ids)))] else Option.none
 else
 bif Decidable.decide (thrE (nI (rowLen 32 a)) = 0) then
 bif Decidable.decide (nI (([] : List Int).length / 33) < nI (rowLen 32 a)) then
 let v56 : Int := IntKind.i64.wrap (nI (rowLen 33 []) - nI (rowLen 32 a));
 bif loOk (Option.some v56) (hiInt Option.none (rowLen 33 [])) then
 let v57 : List Int := Go.Eng.sub [] (Off.el v56.toNat 33 0) (Go.Eng.subN (hiNat Option.none (rowLen 33 [])) (Option.some v56) * 33);
 bif okS v57 && okB x then bif Decidable.decide (idsN (ids33 v57) = 0) then bif Decidable.decide (thrE (nI (rowLen 32 a)) = 0) then Option.none else Option.none else bif Decidable.decide (thrE (nI (rowLen 32 a)) = 0) then Option.none else Option.none else Option.none
 else Option.none
 else
 let v58 : Int := IntKind.i64.wrap (nI (rowLen 33 []) - nI (rowLen 32 a));
 bif loOk (Option.some v58) (hiInt Option.none (rowLen 33 [])) then
 let v59 : List Int := Go.Eng.sub [] (Off.el v58.toNat 33 0) (Go.Eng.subN (hiNat Option.none (rowLen 33 [])) (Option.some v58) * 33);
 bif okS v59 && okB x then bif Decidable.decide (idsN (ids33 v59) = 0) then bif Decidable.decide (thrE (nI (rowLen 32 a)) = 0) then Option.none else Option.none else bif Decidable.decide (thrE (nI (rowLen 32 a)) = 0) then Option.none else Option.none else Option.none
 else Option.none
 else
 let v60 : Int := IntKind.i64.wrap (nI (rowLen 33 []) - nI (rowLen 32 a));
 bif loOk (Option.some v60) (hiInt Option.none (rowLen 33 [])) then
 let v61 : List Int := Go.Eng.sub [] (Off.el v60.toNat 33 0) (Go.Eng.subN (hiNat Option.none (rowLen 33 [])) (Option.some v60) * 33);
 bif okS v61 && okB x then
 bif Decidable.decide (idsN (ids33 v61) = 0) then
 bif Decidable.decide (thrE (nI (rowLen 32 a)) = 0) then bif thrE (nI (rowLen 32 a)) == 0 then Option.none else Option.none
 else
 bif thrE (nI (rowLen 32 a)) == 0 then
 let v62 : Bool := bif Bool.true then thrE (nI (rowLen 32 a)) == 0 else Bool.false;
 bif v62 then Option.none else Option.none
 else Option.none
 else
 bif Decidable.decide (thrE (nI (rowLen 32 a)) = 0) then
 bif thrE (nI (rowLen 32 a)) == 0 then
 let v63 : Bool := bif Bool.true then idsN (ids33 v61) == 0 else Bool.false;
 bif v63 then Option.none else Option.none
 else Option.none
 else
 bif thrE (nI (rowLen 32 a)) == 0 then
 let v64 : Bool := bif Bool.true then idsN (ids33 v61) == 0 else Bool.false;
 bif v64 then
 let v65 : Bool := bif Bool.true then thrE (nI (rowLen 32 a)) == 0 else Bool.false;
 bif v65 then Option.none else Option.none
 else Option.none
 else Option.none
 else Option.none
 else Option.none
else Option.none


noncomputable def E7 (N : Nat) : Env := { Θ := Th, Γ := GL7, K := K7, ν := N7, fuel := 0, lp := [] }


theorem f7_loops (N : Nat) (hΓ : CtxOk Try.prog GL7) : LoopsOk Try.prog (E7 N).lp B7 := loopsOk_of (l := []) (by kernel_rfl) trivial
theorem f7_raw_eq {R : Type} (N : Nat) (a : List Int) (ids : List Int) (x : List Int) (k : List DV → Option R) : exec (E7 N) B7 (start7 98 a ids x) (retK Th { ps := [], rs := [.val] } [] R7 k) = f7_raw N a ids x k := by kernel_rfl
end Go.Proofs.Ytogcijgklnfjjaa

namespace Go.Proofs.Ytogcijgklnfjjaa
open Go Go.Eng
set_option maxRecDepth 100000
set_option linter.unusedVariables false

theorem thr_of {t : Nat} (h1 : 1 ≤ t) (h2 : t ≤ 255) : thrE (t : Int) = 0 := by
  unfold thrE
  rw [decide_eq_false (by omega), decide_eq_false (by omega)]; rfl
theorem f7_true {a ids x : List Int} {t n : Nat} (ha : okF a = true) (hx : okB x = true) (ht : a.length / 32 = t) (hn : ids.length = n) (hb : n ≤ 1048576) :
    f7_raw 0 a ids x some = some [.v (.one (.bool true))] := by
  have hnb : Nat.ble ids.length 1073741823 = true := Nat.ble_eq_true_of_le (by omega)
  have hnb2 : Nat.ble ids.length 1073741824 = true := Nat.ble_eq_true_of_le (by omega)
  have ra : nI (rowLen 32 a) = (t : Int) := by rw [rows32 ha, ht]
  unfold f7_raw
  rw [ha, hnb, ra, rows1, hn]
  simp only [Bool.and_self, cond_true]
  by_cases hid : idsN ids = 0
  · rw [decide_eq_true hid, cond_true]
    simp only [cond_false]
    have hi := ids_ok hid
    have hle := hi.le
    have hpos := hi.pos
    by_cases h1 : (t : Int) < 1
    · rw [decide_eq_true h1, cond_true, ← hn, hnb2, cond_true, hid]; rfl
    · rw [decide_eq_false h1, cond_false]
      by_cases h2 : (n : Int) < (t : Int)
      · rw [decide_eq_true h2, cond_true, ← hn, hnb2, cond_true, hid]; rfl
      · rw [decide_eq_false h2, cond_false]
        obtain ⟨m, hm⟩ : ∃ m, n = m + t := ⟨n - t, by omega⟩
        have hV : LtE (fun i => evN a (plN (ids.getD i 0))) := fun i => evN_lt _ _
        have eS : splitG a ids = shG (fun i => ids.getD i 0) (fun i => evN a (plN (ids.getD i 0))) n := by unfold splitG; rw [hn]
        have hS : okS (splitG a ids) = true := by rw [eS]; exact shG_okS (by omega)
        have hlen : (splitG a ids).length / 33 = n := by rw [eS, shG_div]
        have hrow : nI (rowLen 33 (splitG a ids)) = (n : Int) := by rw [eS, shG_rows]
        have hrow' : rowLen 33 (splitG a ids) = n := hlen
        have hthr : thrE (t : Int) = 0 := thr_of (by omega) (by omega)
        have hids : ids33 (splitG a ids) = ids := by
          rw [eS]
          refine list_ext0 (by rw [shG_idsL, hn]) fun i hi => ?_
          rw [shG_idsL] at hi
          rw [shG_ids i hi]
        have hpl := hi.pl
        have hP : ∀ i, i < n → pX (P33 (splitG a ids)) i = plF ids i ∧ pY (P33 (splitG a ids)) i = evN a (plF ids i) := fun i hi => by
          rw [eS]
          exact shG_pts hV (by omega) i hi
        have hdt : ∀ i j, i < j → j < t → pX (P33 (splitG a ids)) i ≠ pX (P33 (splitG a ids)) j := fun i j h1 h2 => by
          rw [(hP i (by omega)).1, (hP j (by omega)).1]; exact hpl i j h1 (by omega)
        obtain ⟨c1, c2⟩ := val_num (a := a) (Y := pY (P33 (splitG a ids))) (pX_lt (P33 (splitG a ids))) ht hdt (pY_lt _) fun l hl => by rw [(hP l (by omega)).2, (hP l (by omega)).1]
        have hPd : (P33 (splitG a ids)).length / 64 = n := by
          have := pts_div hS
          rw [hlen] at this
          unfold P33; rw [hlen]; exact this
        have hon : onB (splitG a ids) t = true := by
          unfold onB
          rw [hlen]
          cases hq : Nat.ble n t with
          | true => rfl
          | false =>
            rw [cond_false]
            unfold togB
            refine onG_all fun l h1 h2 => ?_
            rw [hPd] at h2
            rw [evN_arr (coefG_lt _ _ _) ht c1, (hP l (by omega)).1, (hP l (by omega)).2]
        have hw : IntKind.i64.wrap ((n : Int) - (t : Int)) = (m : Int) := by
          rw [show (n : Int) - (t : Int) = (m : Int) by omega]; exact wi64 (by omega)
        have hcut : Go.Eng.sub (splitG a ids) (Off.el (Int.toNat (m : Int)) 33 0) (Go.Eng.subN (hiNat none n) (some (m : Int)) * 33) = shG (fun i => ids.getD (m + i) 0) (fun i => evN a (plN (ids.getD (m + i) 0))) t := by
          show List.take ((n - m) * 33) (List.drop (m * 33 + 0) (splitG a ids)) = _
          rw [eS, Nat.add_zero]
          subst hm
          rw [shG_tail, show m + t - m = t by omega, List.take_of_length_le (by rw [shG_len]; exact Nat.le_refl _)]
        have hlo : loOk (some (m : Int)) (hiInt none n) = true := by
          show (decide ((0 : Int) ≤ (m : Int)) && decide ((m : Int) ≤ (n : Int))) = true
          rw [decide_eq_true (by omega), decide_eq_true (by omega)]; rfl
        have hV2 : LtE (fun i => evN a (plN (ids.getD (m + i) 0))) := fun i => evN_lt _ _
        generalize eT : shG (fun i => ids.getD (m + i) 0) (fun i => evN a (plN (ids.getD (m + i) 0))) t = T at hcut
        have hT : okS T = true := by rw [← eT]; exact shG_okS (by omega)
        have hTl : T.length / 33 = t := by rw [← eT, shG_div]
        have hTi : idsN (ids33 T) = 0 := by
          apply ids_of
          have hg : ∀ i, i < t → (ids33 T).getD i 0 = ids.getD (m + i) 0 := fun i hi => by rw [← eT]; exact shG_ids i hi
          have hl : (ids33 T).length = t := by rw [← eT]; exact shG_idsL
          exact ⟨by omega, by omega, fun k hk => by rw [hg k (by omega)]; exact hi.rng _ (by omega), fun i j h1 h2 => by rw [hg i (by omega), hg j (by omega)]; exact hi.ne _ _ (by omega) (by omega)⟩
        have hTP : ∀ i, i < t → pX (P33 T) i = plF ids (m + i) ∧ pY (P33 T) i = evN a (plF ids (m + i)) := fun i hi => by
          rw [← eT]
          exact shG_pts hV2 (by omega) i hi
        obtain ⟨_, c4⟩ := val_num (a := a) (Y := pY (P33 T)) (pX_lt (P33 T)) ht (fun i j h1 h2 => by
          rw [(hTP i (by omega)).1, (hTP j (by omega)).1]; exact hpl _ _ (by omega) (by omega)) (pY_lt _) fun l hl => by rw [(hTP l (by omega)).2, (hTP l (by omega)).1]
        have hcan : List.take 32 (List.drop (mulE (Int.toNat 0) 32) (canG a)) = sN (numF a 0) := by
          unfold canG
          exact arr_el (numF a) (i := 0) (by omega)
        have hcr : nI (rowLen 32 (canG a)) = (t : Int) := by unfold canG; rw [arr_rows, ht]
        have hlen' : nI ((splitG a ids).length / 33) = (n : Int) := by rw [hlen]
        rw [hS, hthr, hids, hid, hlen', hrow, hrow', hw, hlo, hcut, hT, hx, hTi, Int.toNat_natCast, hon, hcr, hcan, hTl, c2, c4, evN_zero (by omega)]
        rw [decide_eq_false h2, decide_eq_false (show ¬ (n : Int) < 1 by omega), decide_eq_true (show (0 : Int) < (t : Int) by omega)]
        simp only [Nat.le_refl, Bool.and_self, cond_true, cond_false, decide_true, beq_self_eq_true]
  · rw [decide_eq_false hid, cond_false, show (idsN ids != 0) = true by simpa using hid, cond_true, ← hn, hnb2, cond_true]
    simp
end Go.Proofs.Ytogcijgklnfjjaa

namespace Go.Proofs.Ytogcijgklnfjjaa
open Go Go.Eng Go.ChangeShapes Go.WideShapes Go.RowKit Go.ChangeAt
set_option maxRecDepth 100000

theorem contract7 (H : Type) (enc : TypeId × Value → H) (W : World) (base : Nat) (args : Array Value) (ds gs : List (DataW H)) (before : List MemPlace)
    (hval : ∀ (j : Nat) t v, Try.f7.params[j]? = some t → args[j]? = some v → Value.okWide Try.prog W .any base t v)
    (hW : DataW.Whole enc Try.prog Try.f7.params.toList Rows.shamirBackSpec.vars false W args.toList ds gs before) (hk : Rows.uptoSmall H (ds ++ gs) = true) :
    Calls Try.prog 7 args W fun e W' => ∃ v, e = .returned v ∧ Rows.shamirBackSpec.post enc Try.prog Try.f7 false true false false W args v W' := by
  have hW' := hW
  obtain ⟨p, q, hA, hV, rfl, hfz, hnd⟩ := hW
  obtain ⟨rfl, rfl⟩ := trodVars_none hV
  rw [Try.params7] at hA hval
  obtain ⟨v0, vs0, d0, ds0, p0, q0, hargs, rfl, rfl, h0, r0⟩ := trodAll_cons hA
  obtain ⟨v1, vs1, d1, ds1, p1, q1, rfl, rfl, rfl, h1, r1⟩ := trodAll_cons r0
  obtain ⟨v2, vs2, d2, ds2, p2, q2, rfl, rfl, rfl, h2, r2⟩ := trodAll_cons r1
  obtain ⟨rfl, rfl, rfl⟩ := trodAll_nil r2
  obtain rfl : args = #[v0, v1, v2] := by cases args; simp_all
  have hb := bulk_bound hk
  simp only [List.append_nil, Rows.uptoBulkAll, Nat.add_zero] at hb
  obtain ⟨A0, n0, c0, rfl⟩ := okWide_slice Try.underlying23 (hval 0 23 v0 rfl rfl)
  obtain ⟨f0, h0⟩ := h0
  obtain ⟨x0, len0, cap0, Ad0, loc0, o01, o02, l0, o04, o05, o06, w0, o08⟩ := open_view (k := .u8) (es := 32) Try.underlying23 (by omega) (elSc H enc) h0
  have b0 : len0 ≤ Rows.uptoBulk d0 := bulk_slice o08
  obtain ⟨A1, n1, c1, rfl⟩ := okWide_slice Try.underlying37 (hval 1 37 v1 rfl rfl)
  obtain ⟨f1, h1⟩ := h1
  obtain ⟨x1, len1, cap1, Ad1, loc1, o11, o12, l1, o14, o15, o16, w1, o18⟩ := open_view (k := .i64) (es := 1) Try.underlying37 (by omega) (elInt H enc) h1
  have b1 : len1 ≤ Rows.uptoBulk d1 := bulk_slice o18
  obtain ⟨x2, rfl, l2, w2⟩ := open_arr Try.underlying30 Try.underlying5 (by kernel_rfl) (by kernel_rfl) (hval 2 30 v2 rfl rfl) h2
  have hs : Sim W { blk := fun _ => False, loc := ({ loc := locOf [(0, loc0), (1, loc1)], tot := fun _ => 0 } : Rho).loc, tot := ({ loc := locOf [(0, loc0), (1, loc1)], tot := fun _ => 0 } : Rho).tot, sh := (start7 98 x0 x1 x2).S, out := ({ loc := locOf [(0, loc0), (1, loc1)], tot := fun _ => 0 } : Rho).out } ({ loc := locOf [(0, loc0), (1, loc1)], tot := fun _ => 0 } : Rho) (start7 98 x0 x1 x2) { tmps := #[.slice A0 n0 c0, .slice A1 n1 c1, .agg (x2.map (Value.int .u8)).toArray] ++ Array.replicate (98 - 3) undef, defers := [] } W := by
    refine sim_startD (s0 := start7 98 x0 x1 x2) (ρ := { loc := locOf [(0, loc0), (1, loc1)], tot := fun _ => 0 }) (args := #[.slice A0 n0 c0, .slice A1 n1 c1, .agg (x2.map (Value.int .u8)).toArray]) (n := 98) (avs := [.s (.one (.own 0)), .s (.one (.own 1)), .s (.one (.ints .u8 32 x2))]) rfl (by simp) rfl ?_ ?_ ?_ (fun b hb => hb.elim) ⟨(show RelAt ({ loc := locOf [(0, loc0), (1, loc1)], tot := fun _ => 0 } : Rho) (start7 98 x0 x1 x2).S (.own 0) [Value.slice A0 n0 c0] from rel_own rfl o01 o02 l0 o05 (by omega) rfl), (show RelAt ({ loc := locOf [(0, loc0), (1, loc1)], tot := fun _ => 0 } : Rho) (start7 98 x0 x1 x2).S (.own 1) [Value.slice A1 n1 c1] from rel_own rfl o11 o12 l1 o15 (by omega) rfl), ⟨rfl, l2⟩, trivial⟩
    · simp [start7, Nodup', putNames]
    · intro j it hi
      simp only [start7, AS.I, findI_cons] at hi
      split at hi
      · rename_i hj; subst hj; injection hi with hi; subst hi
        exact ⟨rfl, ⟨by omega, trivial⟩, ⟨len0, l0⟩, o04⟩
      ·
        split at hi
        · rename_i hj; subst hj; injection hi with hi; subst hi
          exact ⟨rfl, ⟨by omega, trivial⟩, ⟨len1, l1⟩, o14⟩
        ·
          simp [findI] at hi
    · intro j p hp
      simp only [locOf] at hp
      split at hp
      · exact o06 p hp
      ·
        split at hp
        · exact o16 p hp
        ·
          cases hp
  have he := f7_true (okF_row (by omega) l0 w0) (okB_row l2 w2) rfl (by omega : x1.length = len1) (by omega)
  rw [← f7_raw_eq] at he
  refine (law_calls thOk GL7_ok mixed ok7 (f7_loops _ GL7_ok) (fun _ => id) hs he).mono fun e W' ⟨h1, h2, h3, h4⟩ => ?_
  exact ⟨_, h1, post_of_law laidOut (by kernel_rfl) Try.underlying4 rfl (by rw [Try.params7]; intro t ht; simp only [List.mem_cons, List.not_mem_nil, or_false] at ht; rcases ht with rfl | rfl | rfl <;> exact ⟨by kernel_rfl, by decide +kernel⟩) ⟨rfl, rfl, rfl⟩ hW' h2 h3 h4⟩

theorem lifted7 (os : Os) (started : os.Started) (H : Type) (enc : TypeId × Value → H) (F : Stop.Interp) :
    ReturnsInHanded {} Try.checked os 7 .any ((Rows.OpenSpec.upto Rows.shamirBackSpec).pre6 enc Try.prog Try.f7 Rows.shamirBackUptoRow.domain false) (((Rows.OpenSpec.upto Rows.shamirBackSpec).at F).post enc Try.prog Try.f7 false true false false) := by
  refine returnsInHanded_of_cond (C := Try.checked) (s := Rows.OpenSpec.upto Rows.shamirBackSpec) (k := Rows.uptoSmall) rfl own0 started (by kernel_rfl) Try.func7
    (OpenSpec.witness (enc := enc) (C := Try.checked) (s := Rows.OpenSpec.upto Rows.shamirBackSpec) (k := Rows.uptoSmall) rfl false ⟨#[], #[.slice none 0 0, .slice none 0 0, .agg (Array.mk (List.replicate 32 (Value.int .u8 0)))], []⟩ 8 (by kernel_rfl) (by kernel_rfl) (by kernel_rfl)
      (x := ([.nil, .nil, .agg (List.replicate 32 (.lit (.int .u8 0)))], [], [])) (by kernel_rfl) rfl (by kernel_rfl)) ?_
  intro W base args ds gs before hval hW _ hk _
  exact contract7 H enc W base args ds gs before hval hW hk

theorem over7 : Rows.shamirBackUptoRow.holds Try.pinned (Rows.OpenSpec.upto Rows.shamirBackSpec) :=
  OpenClaim.holds_of_cond 7 Try.f7 rfl rfl rfl rfl rfl rfl rfl ⟨rfl, rfl, rfl, rfl, rfl⟩ rfl rfl rfl rfl rfl (by kernel_rfl) Try.func7 (by kernel_rfl)
    (of_decide_eq_true (by kernel_rfl)) (by unfold Func.isWrapper; first | (rw [if_pos (by decide +kernel)]; kernel_rfl) | (rw [if_neg (by decide +kernel)]; exact ⟨rfl, rfl⟩))
    (fun os started H enc _ F => lifted7 os started H enc F)

theorem shamirBack_holds : Rows.ShamirBackUptoSaid := over7
end Go.Proofs.Ytogcijgklnfjjaa

#print axioms Go.Proofs.Ytogcijgklnfjjaa.shamirBack_holds
