/- A part of the proof: ShamirOnes: for any shares and place whose data stay within 1,048,576: the weights add up to 1, and with each share they are the secret. -/
import Derived.Test.YtogcijgklnfjjaaShamirOnesUptoSaidT4
import Derived.Test.YtogcijgklnfjjaaRows
import Derived.JoinedCond
set_option linter.unusedVariables false
set_option linter.unusedSimpArgs false

namespace Go.Proofs.Ytogcijgklnfjjaa
open Go Go.Eng
set_option maxRecDepth 100000
set_option linter.unusedVariables false

def f39_0_sh : Shp := { n := 29, lo := 1, slots := [(3, .one (.fix (At.mapv 9))), (10, .one (.fix (At.own 0))), (11, .one (.int IntKind.i64)), (12, .one (.int IntKind.i64))], items := [(0, .view (RK.one IntKind.i64) 1), (9, .mp (MK.int IntKind.i64) IntKind.i64)] }
def f39_0_ex1 : Shp := { n := 29, lo := 1, slots := [(2, .one (.int IntKind.i64)), (19, .one (.bool)), (5, .one (.int IntKind.i64)), (4, .one (.int IntKind.i64)), (13, .one (.bool)), (3, .one (.fix (At.mapv 9))), (10, .one (.fix (At.own 0))), (11, .one (.int IntKind.i64)), (12, .one (.int IntKind.i64))], items := [(0, .view (RK.one IntKind.i64) 1), (9, .mp (MK.int IntKind.i64) IntKind.i64)] }
def f39_0_ex2 : Shp := { n := 29, lo := 1, slots := [(2, .one (.int IntKind.i64)), (23, .one (.bool)), (19, .one (.bool)), (5, .one (.int IntKind.i64)), (4, .one (.int IntKind.i64)), (13, .one (.bool)), (3, .one (.fix (At.mapv 9))), (10, .one (.fix (At.own 0))), (11, .one (.int IntKind.i64)), (12, .one (.int IntKind.i64))], items := [(0, .view (RK.one IntKind.i64) 1), (9, .mp (MK.int IntKind.i64) IntKind.i64)] }
def f39_0_ex3 : Shp := { n := 29, lo := 1, slots := [(13, .one (.bool)), (3, .one (.fix (At.mapv 9))), (10, .one (.fix (At.own 0))), (11, .one (.int IntKind.i64)), (12, .one (.int IntKind.i64))], items := [(0, .view (RK.one IntKind.i64) 1), (9, .mp (MK.int IntKind.i64) IntKind.i64)] }
noncomputable def f39_0_st {R : Type} (N : Nat) (self : Int → Int → List Int → List (List Int) → Option R) (k1 : Int → Bool → Int → Int → Bool → Int → Int → List Int → List (List Int) → Option R) (k2 : Int → Bool → Bool → Int → Int → Bool → Int → Int → List Int → List (List Int) → Option R) (k3 : Bool → Int → Int → List Int → List (List Int) → Option R) (x1 : Int) (x2 : Int) (x3 : List Int) (x4 : List (List Int)) : Option R :=
 bif Decidable.decide (x2 < x1) then
 bif Decidable.decide (0 ≤ x2) && Decidable.decide (x2 < nI (rowLen 1 x3)) then
 bif !(Decidable.decide (x3.getD (mulE x2.toNat 1) 0 ≥ 1) && Decidable.decide (x3.getD (mulE x2.toNat 1) 0 ≤ 255)) then k1 4 (!(Decidable.decide (x3.getD (mulE x2.toNat 1) 0 ≥ 1) && Decidable.decide (x3.getD (mulE x2.toNat 1) 0 ≤ 255))) (x3.getD (mulE x2.toNat 1) 0) x2 (Decidable.decide (x2 < x1)) x1 x2 x3 x4
 else
 bif Decidable.decide (mget x4 [x3.getD (mulE x2.toNat 1) 0] > 0) then k2 5 (Decidable.decide (mget x4 [x3.getD (mulE x2.toNat 1) 0] > 0)) (!(Decidable.decide (x3.getD (mulE x2.toNat 1) 0 ≥ 1) && Decidable.decide (x3.getD (mulE x2.toNat 1) 0 ≤ 255))) (x3.getD (mulE x2.toNat 1) 0) x2 (Decidable.decide (x2 < x1)) x1 x2 x3 x4
 else
 let v0 : Int := IntKind.i64.wrap (x2 + 1);
 self x1 v0 x3 (mput x4 [x3.getD (mulE x2.toNat 1) 0] v0)
 else Option.none
else k3 (Decidable.decide (x2 < x1)) x1 x2 x3 x4
noncomputable def f39_0_lp {R : Type} (N : Nat) (k1 : Int → Bool → Int → Int → Bool → Int → Int → List Int → List (List Int) → Option R) (k2 : Int → Bool → Bool → Int → Int → Bool → Int → Int → List Int → List (List Int) → Option R) (k3 : Bool → Int → Int → List Int → List (List Int) → Option R) : Nat → Int → Int → List Int → List (List Int) → Option R
 | 0, _, _, _, _ => none
 | n + 1, x1, x2, x3, x4 => f39_0_st N (f39_0_lp N k1 k2 k3 n) k1 k2 k3 x1 x2 x3 x4
noncomputable def f39_0_F (N : Nat) : (R : Type) → List Leaf → (X → AS → Option R) → Option R := fun _ ls K => match ls with
 | [.i x1, .i x2, .l x3, .ll x4] => f39_0_lp N (fun y1 y2 y3 y4 y5 y6 y7 y8 y9 => K (X.ret) (fill f39_0_ex1 [.i y1, .b y2, .i y3, .i y4, .b y5, .i y6, .i y7, .l y8, .ll y9])) (fun y1 y2 y3 y4 y5 y6 y7 y8 y9 y10 => K (X.ret) (fill f39_0_ex2 [.i y1, .b y2, .b y3, .i y4, .i y5, .b y6, .i y7, .i y8, .l y9, .ll y10])) (fun y1 y2 y3 y4 y5 => K (X.normal) (fill f39_0_ex3 [.b y1, .i y2, .i y3, .l y4, .ll y5])) N x1 x2 x3 x4
 | _ => none
noncomputable def f39_raw {R : Type} (N : Nat) (xs : List Int) (k : List DV → Option R) : Option R :=
 bif nI (rowLen 1 xs) == 0 then k [DV.v (SV.one (At.int IntKind.i64 8))] else f39_0_lp N (fun w0_1 w0_2 w0_3 w0_4 w0_5 w0_6 w0_7 w0_8 w0_9 => k [DV.v (SV.one (At.int IntKind.i64 w0_1))]) (fun w1_1 w1_2 w1_3 w1_4 w1_5 w1_6 w1_7 w1_8 w1_9 w1_10 => k [DV.v (SV.one (At.int IntKind.i64 w1_1))]) (fun w2_1 w2_2 w2_3 w2_4 w2_5 => k [DV.v (SV.one (At.int IntKind.i64 0))]) N (nI (rowLen 1 xs)) 0 xs []


noncomputable def E39 (N : Nat) : Env := { Θ := Th, Γ := GT1, K := K39, ν := N39, fuel := 0, lp := [(0, mkL N39_0 f39_0_sh (f39_0_F N))] }

theorem f39_0_st_eq {R : Type} (N : Nat) (K : X → AS → Option R) (n : Nat) (x1 : Int) (x2 : Int) (x3 : List Int) (x4 : List (List Int)) : roundsOf (E39 N) N39_0 0 B39_0 K (n + 1) (fill f39_0_sh [.i x1, .i x2, .l x3, .ll x4]) = f39_0_st N (fun x1 x2 x3 x4 => roundsOf (E39 N) N39_0 0 B39_0 K n (fill f39_0_sh [.i x1, .i x2, .l x3, .ll x4])) (fun y1 y2 y3 y4 y5 y6 y7 y8 y9 => K (X.ret) (fill f39_0_ex1 [.i y1, .b y2, .i y3, .i y4, .b y5, .i y6, .i y7, .l y8, .ll y9])) (fun y1 y2 y3 y4 y5 y6 y7 y8 y9 y10 => K (X.ret) (fill f39_0_ex2 [.i y1, .b y2, .b y3, .i y4, .i y5, .b y6, .i y7, .i y8, .l y9, .ll y10])) (fun y1 y2 y3 y4 y5 => K (X.normal) (fill f39_0_ex3 [.b y1, .i y2, .i y3, .l y4, .ll y5])) x1 x2 x3 x4 := by kernel_rfl
theorem f39_0_lp_eq {R : Type} (N : Nat) (K : X → AS → Option R) : ∀ (n : Nat) (x1 : Int) (x2 : Int) (x3 : List Int) (x4 : List (List Int)), roundsOf (E39 N) N39_0 0 B39_0 K n (fill f39_0_sh [.i x1, .i x2, .l x3, .ll x4]) = f39_0_lp N (fun y1 y2 y3 y4 y5 y6 y7 y8 y9 => K (X.ret) (fill f39_0_ex1 [.i y1, .b y2, .i y3, .i y4, .b y5, .i y6, .i y7, .l y8, .ll y9])) (fun y1 y2 y3 y4 y5 y6 y7 y8 y9 y10 => K (X.ret) (fill f39_0_ex2 [.i y1, .b y2, .b y3, .i y4, .i y5, .b y6, .i y7, .i y8, .l y9, .ll y10])) (fun y1 y2 y3 y4 y5 => K (X.normal) (fill f39_0_ex3 [.b y1, .i y2, .i y3, .l y4, .ll y5])) n x1 x2 x3 x4
  | 0, _, _, _, _ => rfl
  | n + 1, x1, x2, x3, x4 => by
    rw [f39_0_st_eq, f39_0_lp, show (fun x1 x2 x3 x4 => roundsOf (E39 N) N39_0 0 B39_0 K n (fill f39_0_sh [.i x1, .i x2, .l x3, .ll x4])) = f39_0_lp N (fun y1 y2 y3 y4 y5 y6 y7 y8 y9 => K (X.ret) (fill f39_0_ex1 [.i y1, .b y2, .i y3, .i y4, .b y5, .i y6, .i y7, .l y8, .ll y9])) (fun y1 y2 y3 y4 y5 y6 y7 y8 y9 y10 => K (X.ret) (fill f39_0_ex2 [.i y1, .b y2, .b y3, .i y4, .i y5, .b y6, .i y7, .i y8, .l y9, .ll y10])) (fun y1 y2 y3 y4 y5 => K (X.normal) (fill f39_0_ex3 [.b y1, .i y2, .i y3, .l y4, .ll y5])) n from by funext x1 x2 x3 x4; exact f39_0_lp_eq N K n x1 x2 x3 x4]
theorem f39_0_ok (N : Nat) (hlp : LoopsOk Try.prog (E39 N).lp B39_0) (hΓ : CtxOk Try.prog (E39 N).Γ) : LoopOk Try.prog (mkL N39_0 f39_0_sh (f39_0_F N)) 0 B39_0 := by
  refine loopOk_of (E := E39 N) thOk hΓ mixed hlp ?_
  intro R ls K r h
  unfold f39_0_F at h
  split at h
  · exact ⟨N, by rw [f39_0_lp_eq]; exact h⟩
  · cases h

theorem lok39_0 (N : Nat) (hΓ : CtxOk Try.prog GT1) : LoopOk Try.prog (mkL N39_0 f39_0_sh (f39_0_F N)) 0 B39_0 := f39_0_ok N (loopsOk_of (l := []) (by kernel_rfl) trivial) hΓ
theorem f39_contract (N : Nat) (hΓ : CtxOk Try.prog GT1) : Contract Try.prog 39 { sig := S39, impl := fun _ ds k => call (E39 N) S39 29 B39 R39 ds k } :=
  call_contract (E := E39 N) thOk hΓ mixed ok39.look ok39.body ok39.n ok39.rv ok39.name rfl (by decide) (loopsOk_of (l := [(0, B39_0)]) (by kernel_rfl) (allOk_cons (L := mkL N39_0 f39_0_sh (f39_0_F N)) rfl (lok39_0 N hΓ) trivial))
theorem f39_raw_eq {R : Type} (N : Nat) (xs : List Int) (k : List DV → Option R) : call (E39 N) S39 29 B39 R39 [.lst (.one .i64) 1 xs] k = f39_raw N xs k := by kernel_rfl
end Go.Proofs.Ytogcijgklnfjjaa

namespace Go.Proofs.Ytogcijgklnfjjaa
open Go Go.Eng
set_option maxRecDepth 100000
set_option linter.unusedVariables false

theorem mget_put (k k' : List Int) (v : Int) : ∀ l : List (List Int), mget (mput l k v) k' = if k = k' then v else mget l k'
  | [] => by
    show mget [v :: k] k' = _
    unfold mget
    by_cases h : k = k'
    · rw [if_pos h, show decide ((v :: k).tail = k') = true from decide_eq_true h]; rfl
    · rw [if_neg h, show decide ((v :: k).tail = k') = false from decide_eq_false h]; rfl
  | e :: l => by
    unfold mput
    by_cases h1 : e.tail = k
    · rw [decide_eq_true h1]
      show mget ((v :: k) :: l) k' = _
      unfold mget
      by_cases h : k = k'
      · rw [if_pos h, show decide ((v :: k).tail = k') = true from decide_eq_true h]; rfl
      · rw [if_neg h, show decide ((v :: k).tail = k') = false from decide_eq_false h, show decide (e.tail = k') = false from decide_eq_false (fun q => h (h1.symm.trans q))]
    · rw [decide_eq_false h1]
      show mget (e :: mput l k v) k' = _
      unfold mget
      by_cases h2 : e.tail = k'
      · rw [decide_eq_true h2, if_neg (fun q => h1 (h2.trans q.symm))]
      · rw [decide_eq_false h2]; exact mget_put k k' v l

def seenG (key : Nat → List Int) : Nat → List (List Int)
  | 0 => []
  | i + 1 => mput (seenG key i) (key i) ((i : Int) + 1)
def hasK (key : Nat → List Int) (k : List Int) : Nat → Bool
  | 0 => false
  | i + 1 => decide (key i = k) || hasK key k i
theorem seen_has (key : Nat → List Int) (k : List Int) : ∀ i, decide (mget (seenG key i) k > 0) = hasK key k i
  | 0 => rfl
  | i + 1 => by
    unfold seenG hasK
    rw [mget_put]
    by_cases h : key i = k
    · rw [if_pos h, decide_eq_true h, Bool.true_or]; exact decide_eq_true (by omega)
    · rw [if_neg h, decide_eq_false h, Bool.false_or]; exact seen_has key k i
theorem hasK_iff {key : Nat → List Int} {k : List Int} : ∀ {i}, hasK key k i = true ↔ ∃ j, j < i ∧ key j = k
  | 0 => by simp [hasK]
  | i + 1 => by
    unfold hasK
    rw [Bool.or_eq_true, hasK_iff (i := i), decide_eq_true_eq]
    constructor
    · rintro (h | ⟨j, h1, h2⟩)
      · exact ⟨i, by omega, h⟩
      · exact ⟨j, by omega, h2⟩
    · rintro ⟨j, h1, h2⟩
      by_cases e : j = i
      · subst e; exact .inl h2
      · exact .inr ⟨j, by omega, h2⟩

theorem dupF_iff {xs : List Int} {i : Nat} : ∀ {m k}, dupF xs i m k = true ↔ ∃ j, k ≤ j ∧ j < k + m ∧ xs.getD j 0 = xs.getD i 0
  | 0, k => by simp [dupF]; omega
  | m + 1, k => by
    unfold dupF
    rw [Bool.or_eq_true, dupF_iff (m := m), beq_iff_eq]
    constructor
    · rintro (h | ⟨j, h1, h2, h3⟩)
      · exact ⟨k, by omega, by omega, h⟩
      · exact ⟨j, by omega, by omega, h3⟩
    · rintro ⟨j, h1, h2, h3⟩
      by_cases e : j = k
      · subst e; exact .inl h3
      · exact .inr ⟨j, by omega, by omega, h3⟩
theorem dup_has (xs : List Int) (i : Nat) : hasK (fun j => [xs.getD j 0]) [xs.getD i 0] i = dupF xs i i 0 := by
  rw [Bool.eq_iff_iff, hasK_iff, dupF_iff]
  constructor
  · rintro ⟨j, h1, h2⟩; injection h2 with h2; exact ⟨j, by omega, by omega, h2⟩
  · rintro ⟨j, _, h2, h3⟩; exact ⟨j, by omega, by rw [h3]⟩

theorem f39_out {R : Type} {N : Nat} (K : Int → Option R) {xs : List Int} (hb : xs.length ≤ 1073741824) :
    ∀ j i : Nat, i + j = xs.length → ∀ fuel, j < fuel → f39_0_lp N (fun w0_1 _ _ _ _ _ _ _ _ => K w0_1) (fun w1_1 _ _ _ _ _ _ _ _ _ => K w1_1) (fun _ _ _ _ _ => K 0) fuel (xs.length : Int) (i : Int) xs (seenG (fun j => [xs.getD j 0]) i) = K (idsE xs j i) := by
  intro j
  induction j with
  | zero =>
    intro i h fuel hf
    obtain ⟨f, rfl⟩ : ∃ f, fuel = f + 1 := ⟨fuel - 1, by omega⟩
    show f39_0_st N (f39_0_lp N _ _ _ f) _ _ _ _ _ _ _ = _
    unfold f39_0_st
    rw [decide_eq_false (by omega), cond_false]
    rfl
  | succ j ih =>
    intro i h fuel hf
    obtain ⟨f, rfl⟩ : ∃ f, fuel = f + 1 := ⟨fuel - 1, by omega⟩
    show f39_0_st N (f39_0_lp N _ _ _ f) _ _ _ _ _ _ _ = _
    unfold f39_0_st
    have e4 : IntKind.i64.wrap ((i : Int) + 1) = ((i + 1 : Nat) : Int) := by
      rw [show (i : Int) + 1 = ((i + 1 : Nat) : Int) by omega]; exact wi64 (by omega)
    rw [rows1]
    dsimp only
    rw [show mulE (Int.toNat (i : Int)) 1 = i from rfl, decide_eq_true (show (0 : Int) ≤ (i : Int) by omega), decide_eq_true (show (i : Int) < (xs.length : Int) by omega), e4, seen_has, dup_has]
    simp only [Bool.and_self, cond_true]
    rw [idsE]
    have hbad : (!(decide (xs.getD i 0 ≥ 1) && decide (xs.getD i 0 ≤ 255))) = (decide (xs.getD i 0 < 1) || decide (xs.getD i 0 > 255)) := by
      rw [Bool.eq_iff_iff]; simp
    rw [hbad]
    cases h1 : decide (xs.getD i 0 < 1) || decide (xs.getD i 0 > 255) with
    | true => rfl
    | false =>
      rw [cond_false, cond_false]
      cases dupF xs i i 0 with
      | true => rfl
      | false =>
        rw [cond_false, cond_false]
        have := ih (i + 1) (by omega) f (by omega)
        exact this
theorem c39 : Contract Try.prog 39 { sig := S39, impl := I18 } := by
  refine Contract.refine fun R ds k r h => ?_
  unfold I18 at h
  split at h
  · rename_i xs
    refine ⟨_, f39_contract (xs.length + 1) GT1_ok, ?_⟩
    cases hc : Nat.ble xs.length 1073741824 with
    | false => rw [hc] at h; cases h
    | true =>
      rw [hc, cond_true] at h
      have hb := Nat.le_of_ble_eq_true hc
      rw [f39_raw_eq]
      unfold f39_raw
      unfold idsN at h
      rw [rows1]
      cases hq : Nat.beq xs.length 0 with
      | true =>
        rw [hq] at h
        rw [Nat.eq_of_beq_eq_true hq]
        exact h
      | false =>
        rw [hq, cond_false] at h
        have hq : xs.length ≠ 0 := fun e => by rw [e] at hq; cases hq
        rw [show (((xs.length : Nat) : Int) == 0) = false by simp; intro e; exact hq (by rw [e]; rfl), cond_false]
        exact (f39_out (N := xs.length + 1) (fun w => k [DV.v (SV.one (At.int IntKind.i64 w))]) hb xs.length 0 (by omega) (xs.length + 1) (by omega)).trans h
  · exact (Option.some_ne_none _ h.symm).elim
noncomputable def GT2 : Ctx := (39, { sig := S39, impl := I18 }) :: GT1
theorem GT2_ok : CtxOk Try.prog GT2 := ctxOk_cons ok39 rfl c39 GT1_ok
end Go.Proofs.Ytogcijgklnfjjaa

namespace Go.Proofs.Ytogcijgklnfjjaa
open Go Go.Eng
set_option maxRecDepth 100000
set_option linter.unusedVariables false

def f9_0_sh : Shp := { n := 161, lo := 1, slots := [(0, .one (.fix (At.own 0))), (4, .one (.fix (At.mapv 27))), (28, .one (.fix (At.own 0))), (29, .one (.int IntKind.i64)), (30, .one (.int IntKind.i64))], items := [(0, .view (RK.mix ck32) 64), (27, .mp (MK.arr IntKind.u8 32) IntKind.i64)] }
def f9_0_ex1 : Shp := { n := 161, lo := 1, slots := [(3, .one (.int IntKind.i64)), (2, .one (.fix (At.nils))), (42, .one (.bool)), (7, .one (.fix (At.ptr 7 0 Off.z 32))), (5, .one (.int IntKind.i64)), (6, .one (.fix (At.ptr 6 0 Off.z 64))), (31, .one (.bool)), (0, .one (.fix (At.own 0))), (4, .one (.fix (At.mapv 27))), (28, .one (.fix (At.own 0))), (29, .one (.int IntKind.i64)), (30, .one (.int IntKind.i64))], items := [(7, .obj [.ints IntKind.u8 32]), (6, .obj [.ints IntKind.u8 32, .ints IntKind.u8 32]), (0, .view (RK.mix ck32) 64), (27, .mp (MK.arr IntKind.u8 32) IntKind.i64)] }
def f9_0_ex2 : Shp := { n := 161, lo := 1, slots := [(31, .one (.bool)), (0, .one (.fix (At.own 0))), (4, .one (.fix (At.mapv 27))), (28, .one (.fix (At.own 0))), (29, .one (.int IntKind.i64)), (30, .one (.int IntKind.i64))], items := [(0, .view (RK.mix ck32) 64), (27, .mp (MK.arr IntKind.u8 32) IntKind.i64)] }
noncomputable def f9_0_st {R : Type} (N : Nat) (self : Int → Int → List Int → List (List Int) → Option R) (k1 : Int → Bool → Int → Bool → Int → Int → List Int → List Int → List Int → List Int → List (List Int) → Option R) (k2 : Bool → Int → Int → List Int → List (List Int) → Option R) (x1 : Int) (x2 : Int) (x3 : List Int) (x4 : List (List Int)) : Option R :=
 bif Decidable.decide (x2 < x1) then
 bif Decidable.decide (0 ≤ x2) && Decidable.decide (x2 < nI (rowLen 64 x3)) then
 bif okB (List.take 32 (List.drop (x2.toNat * 64 + 0) x3)) && okB (List.replicate 32 0) then
 bif Decidable.decide (mget x4 (sN (addN (vS (List.take 32 (List.drop (x2.toNat * 64 + 0) x3))) (vS (List.replicate 32 0)))) > 0) then k1 5 (Decidable.decide (mget x4 (sN (addN (vS (List.take 32 (List.drop (x2.toNat * 64 + 0) x3))) (vS (List.replicate 32 0)))) > 0)) x2 (Decidable.decide (x2 < x1)) x1 x2 (sN (addN (vS (List.take 32 (List.drop (x2.toNat * 64 + 0) x3))) (vS (List.replicate 32 0)))) (List.take 32 (List.drop (x2.toNat * 64 + 0) x3)) (List.take 32 (List.drop (x2.toNat * 64 + (0 + 32)) x3)) x3 x4
 else
 let v0 : Int := IntKind.i64.wrap (x2 + 1);
 self x1 v0 x3 (mput x4 (sN (addN (vS (List.take 32 (List.drop (x2.toNat * 64 + 0) x3))) (vS (List.replicate 32 0)))) v0)
 else Option.none
 else Option.none
else k2 (Decidable.decide (x2 < x1)) x1 x2 x3 x4
noncomputable def f9_0_lp {R : Type} (N : Nat) (k1 : Int → Bool → Int → Bool → Int → Int → List Int → List Int → List Int → List Int → List (List Int) → Option R) (k2 : Bool → Int → Int → List Int → List (List Int) → Option R) : Nat → Int → Int → List Int → List (List Int) → Option R
 | 0, _, _, _, _ => none
 | n + 1, x1, x2, x3, x4 => f9_0_st N (f9_0_lp N k1 k2 n) k1 k2 x1 x2 x3 x4
noncomputable def f9_0_F (N : Nat) : (R : Type) → List Leaf → (X → AS → Option R) → Option R := fun _ ls K => match ls with
 | [.i x1, .i x2, .l x3, .ll x4] => f9_0_lp N (fun y1 y2 y3 y4 y5 y6 y7 y8 y9 y10 y11 => K (X.ret) (fill f9_0_ex1 [.i y1, .b y2, .i y3, .b y4, .i y5, .i y6, .l y7, .l y8, .l y9, .l y10, .ll y11])) (fun y1 y2 y3 y4 y5 => K (X.normal) (fill f9_0_ex2 [.b y1, .i y2, .i y3, .l y4, .ll y5])) N x1 x2 x3 x4
 | _ => none
def f9_2_sh : Shp := { n := 161, lo := 1, slots := [(0, .one (.fix (At.own 0))), (8, .one (.int IntKind.i64)), (9, .one (.fix (At.own 51))), (52, .one (.fix (At.own 0))), (53, .one (.int IntKind.i64)), (54, .one (.int IntKind.i64))], items := [(0, .view (RK.mix ck32) 64), (51, .row (RK.one IntKind.u8) 32)] }
def f9_2_ex1 : Shp := { n := 161, lo := 1, slots := [(55, .one (.bool)), (0, .one (.fix (At.own 0))), (8, .one (.int IntKind.i64)), (9, .one (.fix (At.own 51))), (52, .one (.fix (At.own 0))), (53, .one (.int IntKind.i64)), (54, .one (.int IntKind.i64))], items := [(0, .view (RK.mix ck32) 64), (51, .row (RK.one IntKind.u8) 32)] }
noncomputable def f9_2_st {R : Type} (N : Nat) (self : Int → Int → Int → List Int → List Int → Option R) (k1 : Bool → Int → Int → Int → List Int → List Int → Option R) (x1 : Int) (x2 : Int) (x3 : Int) (x4 : List Int) (x5 : List Int) : Option R :=
 bif Decidable.decide (x3 < x2) then
 bif Decidable.decide (0 ≤ x3) && Decidable.decide (x3 < nI (rowLen 64 x4)) then
 bif okB (List.take 32 (List.drop (x3.toNat * 64 + (0 + 32)) x4)) && okB (List.replicate 32 0) then
 bif Decidable.decide (0 ≤ x3) && Decidable.decide (x3 < nI (rowLen 32 x5)) then
 let v0 : Int := IntKind.i64.wrap (x3 + 1);
 let v1 : List Int := splice x5 (Off.at (mulE x3.toNat 32)) (sN (addN (vS (List.take 32 (List.drop (x3.toNat * 64 + (0 + 32)) x4))) (vS (List.replicate 32 0))));
 self x1 x2 v0 x4 v1
 else Option.none
 else Option.none
 else Option.none
else k1 (Decidable.decide (x3 < x2)) x1 x2 x3 x4 x5
noncomputable def f9_2_lp {R : Type} (N : Nat) (k1 : Bool → Int → Int → Int → List Int → List Int → Option R) : Nat → Int → Int → Int → List Int → List Int → Option R
 | 0, _, _, _, _, _ => none
 | n + 1, x1, x2, x3, x4, x5 => f9_2_st N (f9_2_lp N k1 n) k1 x1 x2 x3 x4 x5
noncomputable def f9_2_F (N : Nat) : (R : Type) → List Leaf → (X → AS → Option R) → Option R := fun _ ls K => match ls with
 | [.i x1, .i x2, .i x3, .l x4, .l x5] => f9_2_lp N (fun y1 y2 y3 y4 y5 y6 => K (X.normal) (fill f9_2_ex1 [.b y1, .i y2, .i y3, .i y4, .l y5, .l y6])) N x1 x2 x3 x4 x5
 | _ => none
def f9_6_sh : Shp := { n := 161, lo := 1, slots := [(0, .one (.fix (At.own 0))), (8, .one (.int IntKind.i64)), (9, .one (.fix (At.own 51))), (12, .one (.int IntKind.i64)), (13, .one (.int IntKind.i64))], items := [(0, .view (RK.mix ck32) 64), (51, .row (RK.one IntKind.u8) 32)] }
def f9_6_ex1 : Shp := { n := 161, lo := 1, slots := [(76, .one (.bool)), (0, .one (.fix (At.own 0))), (8, .one (.int IntKind.i64)), (9, .one (.fix (At.own 51))), (12, .one (.int IntKind.i64)), (13, .one (.int IntKind.i64))], items := [(0, .view (RK.mix ck32) 64), (51, .row (RK.one IntKind.u8) 32)] }
noncomputable def f9_6_st {R : Type} (N : Nat) (self : Int → Int → Int → List Int → List Int → Option R) (k1 : Bool → Int → Int → Int → List Int → List Int → Option R) (x1 : Int) (x2 : Int) (x3 : Int) (x4 : List Int) (x5 : List Int) : Option R :=
 bif Decidable.decide (x3 ≥ x2) then
 bif Decidable.decide (0 ≤ x3) && Decidable.decide (x3 < nI (rowLen 64 x4)) then
 let v0 : Int := IntKind.i64.wrap (x3 - x2);
 bif Decidable.decide (0 ≤ v0) && Decidable.decide (v0 < nI (rowLen 64 x4)) then
 bif okB (List.take 32 (List.drop (x3.toNat * 64 + (0 + 0)) x4)) && okB (List.take 32 (List.drop (v0.toNat * 64 + (0 + 0)) x4)) then
 bif okB (sN (difN (vS (List.take 32 (List.drop (x3.toNat * 64 + (0 + 0)) x4))) (vS (List.take 32 (List.drop (v0.toNat * 64 + (0 + 0)) x4))))) then
 bif Decidable.decide (vS (sN (difN (vS (List.take 32 (List.drop (x3.toNat * 64 + (0 + 0)) x4))) (vS (List.take 32 (List.drop (v0.toNat * 64 + (0 + 0)) x4))))) = 0) then
 bif Decidable.decide (0 ≤ x3) && Decidable.decide (x3 < nI (rowLen 32 x5)) then
 let v1 : Int := IntKind.i64.wrap (x3 - 1);
 bif Decidable.decide (0 ≤ v1) && Decidable.decide (v1 < nI (rowLen 32 x5)) then
 bif okB (List.take 32 (List.drop (mulE x3.toNat 32) x5)) && okB (List.take 32 (List.drop (mulE v1.toNat 32) x5)) then
 bif okB (sN (difN (vS (List.take 32 (List.drop (mulE x3.toNat 32) x5))) (vS (List.take 32 (List.drop (mulE v1.toNat 32) x5))))) && okB (List.replicate 32 0) then
 bif Decidable.decide (0 ≤ x3) && Decidable.decide (x3 < nI (rowLen 32 x5)) then
 let v2 : List Int := splice x5 (Off.at (mulE x3.toNat 32)) (sN (mulN (vS (sN (difN (vS (List.take 32 (List.drop (mulE x3.toNat 32) x5))) (vS (List.take 32 (List.drop (mulE v1.toNat 32) x5)))))) (vS (List.replicate 32 0))));
 self x1 x2 v1 x4 v2
 else Option.none
 else Option.none
 else Option.none
 else Option.none
 else Option.none
 else
 bif Decidable.decide (0 ≤ x3) && Decidable.decide (x3 < nI (rowLen 32 x5)) then
 let v3 : Int := IntKind.i64.wrap (x3 - 1);
 bif Decidable.decide (0 ≤ v3) && Decidable.decide (v3 < nI (rowLen 32 x5)) then
 bif okB (List.take 32 (List.drop (mulE x3.toNat 32) x5)) && okB (List.take 32 (List.drop (mulE v3.toNat 32) x5)) then
 bif okB (sN (difN (vS (List.take 32 (List.drop (mulE x3.toNat 32) x5))) (vS (List.take 32 (List.drop (mulE v3.toNat 32) x5))))) && okB (sN (invN (vS (sN (difN (vS (List.take 32 (List.drop (x3.toNat * 64 + (0 + 0)) x4))) (vS (List.take 32 (List.drop (v0.toNat * 64 + (0 + 0)) x4)))))))) then
 bif Decidable.decide (0 ≤ x3) && Decidable.decide (x3 < nI (rowLen 32 x5)) then
 let v4 : List Int := splice x5 (Off.at (mulE x3.toNat 32)) (sN (mulN (vS (sN (difN (vS (List.take 32 (List.drop (mulE x3.toNat 32) x5))) (vS (List.take 32 (List.drop (mulE v3.toNat 32) x5)))))) (vS (sN (invN (vS (sN (difN (vS (List.take 32 (List.drop (x3.toNat * 64 + (0 + 0)) x4))) (vS (List.take 32 (List.drop (v0.toNat * 64 + (0 + 0)) x4)))))))))));
 self x1 x2 v3 x4 v4
 else Option.none
 else Option.none
 else Option.none
 else Option.none
 else Option.none
 else Option.none
 else Option.none
 else Option.none
 else Option.none
else k1 (Decidable.decide (x3 ≥ x2)) x1 x2 x3 x4 x5
noncomputable def f9_6_lp {R : Type} (N : Nat) (k1 : Bool → Int → Int → Int → List Int → List Int → Option R) : Nat → Int → Int → Int → List Int → List Int → Option R
 | 0, _, _, _, _, _ => none
 | n + 1, x1, x2, x3, x4, x5 => f9_6_st N (f9_6_lp N k1 n) k1 x1 x2 x3 x4 x5
noncomputable def f9_6_F (N : Nat) : (R : Type) → List Leaf → (X → AS → Option R) → Option R := fun _ ls K => match ls with
 | [.i x1, .i x2, .i x3, .l x4, .l x5] => f9_6_lp N (fun y1 y2 y3 y4 y5 y6 => K (X.normal) (fill f9_6_ex1 [.b y1, .i y2, .i y3, .i y4, .l y5, .l y6])) N x1 x2 x3 x4 x5
 | _ => none
def f9_4_sh : Shp := { n := 161, lo := 1, slots := [(0, .one (.fix (At.own 0))), (8, .one (.int IntKind.i64)), (9, .one (.fix (At.own 51))), (12, .one (.int IntKind.i64))], items := [(0, .view (RK.mix ck32) 64), (51, .row (RK.one IntKind.u8) 32)] }
def f9_4_ex1 : Shp := { n := 161, lo := 1, slots := [(69, .one (.bool)), (0, .one (.fix (At.own 0))), (8, .one (.int IntKind.i64)), (9, .one (.fix (At.own 51))), (12, .one (.int IntKind.i64))], items := [(0, .view (RK.mix ck32) 64), (51, .row (RK.one IntKind.u8) 32)] }
noncomputable def f9_4_st {R : Type} (N : Nat) (self : Int → Int → List Int → List Int → Option R) (k1 : Bool → Int → Int → List Int → List Int → Option R) (x1 : Int) (x2 : Int) (x3 : List Int) (x4 : List Int) : Option R :=
 bif Decidable.decide (x2 < x1) then
 let v0 : Int := IntKind.i64.wrap (x1 - 1);
 f9_6_lp N
 (fun w1_1 w1_2 w1_3 w1_4 w1_5 w1_6 =>
 let v2 : Int := IntKind.i64.wrap (w1_3 + 1);
 self w1_2 v2 w1_5 w1_6)
 N x1 x2 v0 x3 x4
else k1 (Decidable.decide (x2 < x1)) x1 x2 x3 x4
noncomputable def f9_4_lp {R : Type} (N : Nat) (k1 : Bool → Int → Int → List Int → List Int → Option R) : Nat → Int → Int → List Int → List Int → Option R
 | 0, _, _, _, _ => none
 | n + 1, x1, x2, x3, x4 => f9_4_st N (f9_4_lp N k1 n) k1 x1 x2 x3 x4
noncomputable def f9_4_F (N : Nat) : (R : Type) → List Leaf → (X → AS → Option R) → Option R := fun _ ls K => match ls with
 | [.i x1, .i x2, .l x3, .l x4] => f9_4_lp N (fun y1 y2 y3 y4 y5 => K (X.normal) (fill f9_4_ex1 [.b y1, .i y2, .i y3, .l y4, .l y5])) N x1 x2 x3 x4
 | _ => none
def f9_10_sh : Shp := { n := 161, lo := 1, slots := [(0, .one (.fix (At.own 0))), (8, .one (.int IntKind.i64)), (9, .one (.fix (At.own 51))), (16, .one (.fix (At.own 112))), (17, .one (.int IntKind.i64)), (18, .one (.int IntKind.i64))], items := [(0, .view (RK.mix ck32) 64), (51, .row (RK.one IntKind.u8) 32), (112, .row (RK.one IntKind.u8) 32)] }
def f9_10_ex1 : Shp := { n := 161, lo := 1, slots := [(122, .one (.bool)), (0, .one (.fix (At.own 0))), (8, .one (.int IntKind.i64)), (9, .one (.fix (At.own 51))), (16, .one (.fix (At.own 112))), (17, .one (.int IntKind.i64)), (18, .one (.int IntKind.i64))], items := [(0, .view (RK.mix ck32) 64), (51, .row (RK.one IntKind.u8) 32), (112, .row (RK.one IntKind.u8) 32)] }
noncomputable def f9_10_st {R : Type} (N : Nat) (self : Int → Int → Int → List Int → List Int → List Int → Option R) (k1 : Bool → Int → Int → Int → List Int → List Int → List Int → Option R) (x1 : Int) (x2 : Int) (x3 : Int) (x4 : List Int) (x5 : List Int) (x6 : List Int) : Option R :=
 bif Decidable.decide (x3 > 0) then
 let v0 : Int := IntKind.i64.wrap (x3 - 1);
 bif Decidable.decide (0 ≤ v0) && Decidable.decide (v0 < nI (rowLen 32 x6)) then
 bif Decidable.decide (0 ≤ x3) && Decidable.decide (x3 < nI (rowLen 32 x6)) then
 bif Decidable.decide (0 ≤ x2) && Decidable.decide (x2 < nI (rowLen 64 x4)) then
 bif okB (List.take 32 (List.drop (mulE x3.toNat 32) x6)) && okB (List.take 32 (List.drop (x2.toNat * 64 + (0 + 0)) x4)) then
 bif okB (List.take 32 (List.drop (mulE v0.toNat 32) x6)) && okB (sN (mulN (vS (List.take 32 (List.drop (mulE x3.toNat 32) x6))) (vS (List.take 32 (List.drop (x2.toNat * 64 + (0 + 0)) x4))))) then
 bif Decidable.decide (0 ≤ x3) && Decidable.decide (x3 < nI (rowLen 32 x6)) then
 let v1 : List Int := splice x6 (Off.at (mulE x3.toNat 32)) (sN (difN (vS (List.take 32 (List.drop (mulE v0.toNat 32) x6))) (vS (sN (mulN (vS (List.take 32 (List.drop (mulE x3.toNat 32) x6))) (vS (List.take 32 (List.drop (x2.toNat * 64 + (0 + 0)) x4))))))));
 self x1 x2 v0 x4 x5 v1
 else Option.none
 else Option.none
 else Option.none
 else Option.none
 else Option.none
 else Option.none
else k1 (Decidable.decide (x3 > 0)) x1 x2 x3 x4 x5 x6
noncomputable def f9_10_lp {R : Type} (N : Nat) (k1 : Bool → Int → Int → Int → List Int → List Int → List Int → Option R) : Nat → Int → Int → Int → List Int → List Int → List Int → Option R
 | 0, _, _, _, _, _, _ => none
 | n + 1, x1, x2, x3, x4, x5, x6 => f9_10_st N (f9_10_lp N k1 n) k1 x1 x2 x3 x4 x5 x6
noncomputable def f9_10_F (N : Nat) : (R : Type) → List Leaf → (X → AS → Option R) → Option R := fun _ ls K => match ls with
 | [.i x1, .i x2, .i x3, .l x4, .l x5, .l x6] => f9_10_lp N (fun y1 y2 y3 y4 y5 y6 y7 => K (X.normal) (fill f9_10_ex1 [.b y1, .i y2, .i y3, .i y4, .l y5, .l y6, .l y7])) N x1 x2 x3 x4 x5 x6
 | _ => none
def f9_8_sh : Shp := { n := 161, lo := 1, slots := [(0, .one (.fix (At.own 0))), (8, .one (.int IntKind.i64)), (9, .one (.fix (At.own 51))), (16, .one (.fix (At.own 112))), (17, .one (.int IntKind.i64))], items := [(0, .view (RK.mix ck32) 64), (51, .row (RK.one IntKind.u8) 32), (112, .row (RK.one IntKind.u8) 32)] }
def f9_8_ex1 : Shp := { n := 161, lo := 1, slots := [(116, .one (.bool)), (0, .one (.fix (At.own 0))), (8, .one (.int IntKind.i64)), (9, .one (.fix (At.own 51))), (16, .one (.fix (At.own 112))), (17, .one (.int IntKind.i64))], items := [(0, .view (RK.mix ck32) 64), (51, .row (RK.one IntKind.u8) 32), (112, .row (RK.one IntKind.u8) 32)] }
noncomputable def f9_8_st {R : Type} (N : Nat) (self : Int → Int → List Int → List Int → List Int → Option R) (k1 : Bool → Int → Int → List Int → List Int → List Int → Option R) (x1 : Int) (x2 : Int) (x3 : List Int) (x4 : List Int) (x5 : List Int) : Option R :=
 bif Decidable.decide (x2 ≥ 0) then
 let v0 : Int := IntKind.i64.wrap (x1 - 1);
 f9_10_lp N
 (fun w1_1 w1_2 w1_3 w1_4 w1_5 w1_6 w1_7 =>
 bif Decidable.decide (0 ≤ w1_3) && Decidable.decide (w1_3 < nI (rowLen 32 w1_6)) then
 bif Decidable.decide (0 ≤ 0) && Decidable.decide (0 < nI (rowLen 32 w1_7)) then
 bif Decidable.decide (0 ≤ w1_3) && Decidable.decide (w1_3 < nI (rowLen 64 w1_5)) then
 bif okB (List.take 32 (List.drop (mulE (Int.toNat 0) 32) w1_7)) && okB (List.take 32 (List.drop (w1_3.toNat * 64 + (0 + 0)) w1_5)) then
 bif okB (List.take 32 (List.drop (mulE w1_3.toNat 32) w1_6)) && okB (sN (mulN (vS (List.take 32 (List.drop (mulE (Int.toNat 0) 32) w1_7))) (vS (List.take 32 (List.drop (w1_3.toNat * 64 + (0 + 0)) w1_5))))) then
 bif Decidable.decide (0 ≤ 0) && Decidable.decide (0 < nI (rowLen 32 w1_7)) then
 let v2 : Int := IntKind.i64.wrap (w1_3 - 1);
 let v3 : List Int := splice w1_7 (Off.at (mulE (Int.toNat 0) 32)) (sN (difN (vS (List.take 32 (List.drop (mulE w1_3.toNat 32) w1_6))) (vS (sN (mulN (vS (List.take 32 (List.drop (mulE (Int.toNat 0) 32) w1_7))) (vS (List.take 32 (List.drop (w1_3.toNat * 64 + (0 + 0)) w1_5))))))));
 self w1_2 v2 w1_5 w1_6 v3
 else Option.none
 else Option.none
 else Option.none
 else Option.none
 else Option.none
 else Option.none)
 N x1 x2 v0 x3 x4 x5
else k1 (Decidable.decide (x2 ≥ 0)) x1 x2 x3 x4 x5
noncomputable def f9_8_lp {R : Type} (N : Nat) (k1 : Bool → Int → Int → List Int → List Int → List Int → Option R) : Nat → Int → Int → List Int → List Int → List Int → Option R
 | 0, _, _, _, _, _ => none
 | n + 1, x1, x2, x3, x4, x5 => f9_8_st N (f9_8_lp N k1 n) k1 x1 x2 x3 x4 x5
noncomputable def f9_8_F (N : Nat) : (R : Type) → List Leaf → (X → AS → Option R) → Option R := fun _ ls K => match ls with
 | [.i x1, .i x2, .l x3, .l x4, .l x5] => f9_8_lp N (fun y1 y2 y3 y4 y5 y6 => K (X.normal) (fill f9_8_ex1 [.b y1, .i y2, .i y3, .l y4, .l y5, .l y6])) N x1 x2 x3 x4 x5
 | _ => none
noncomputable def f9_raw {R : Type} (N : Nat) (pts : List Int) (k : List DV → Option R) : Option R :=
 bif nI (rowLen 64 pts) == 0 then k [DV.lst (RK.one IntKind.u8) 32 [], DV.v (SV.one (At.int IntKind.i64 8))]
else
 let v0 : Bool := bif Bool.false then Bool.true else Decidable.decide (nI (rowLen 64 pts) > 255);
 bif v0 then k [DV.lst (RK.one IntKind.u8) 32 [], DV.v (SV.one (At.int IntKind.i64 8))]
 else
 f9_0_lp N (fun w1_1 w1_2 w1_3 w1_4 w1_5 w1_6 w1_7 w1_8 w1_9 w1_10 w1_11 => k [DV.lst (RK.one IntKind.u8) 32 [], DV.v (SV.one (At.int IntKind.i64 w1_1))])
 (fun w2_1 w2_2 w2_3 w2_4 w2_5 =>
 bif Decidable.decide (0 ≤ nI (rowLen 64 w2_4)) && (Decidable.decide (nI (rowLen 64 w2_4) ≤ nI (rowLen 64 w2_4)) && (Decidable.decide (nI (rowLen 64 w2_4) ≤ 281474976710656) && Decidable.decide (nI (rowLen 64 w2_4) * 32 ≤ 281474976710656))) then
 f9_2_lp N
 (fun w3_1 w3_2 w3_3 w3_4 w3_5 w3_6 =>
 f9_4_lp N
 (fun w4_1 w4_2 w4_3 w4_4 w4_5 =>
 bif Decidable.decide (0 ≤ w4_2) && (Decidable.decide (w4_2 ≤ w4_2) && (Decidable.decide (w4_2 ≤ 281474976710656) && Decidable.decide (w4_2 * 32 ≤ 281474976710656))) then
 let v5 : Int := IntKind.i64.wrap (w4_2 - 1);
 f9_8_lp N (fun w6_1 w6_2 w6_3 w6_4 w6_5 w6_6 => k [DV.lst (RK.one IntKind.u8) 32 w6_6, DV.v (SV.one (At.int IntKind.i64 0))]) N w4_2 v5 w4_4 w4_5 (zerosOf (mulE w4_2.toNat 32))
 else Option.none)
 N w3_2 1 w3_5 w3_6)
 N (nI (rowLen 64 w2_4)) (nI (rowLen 64 w2_4)) 0 w2_4 (zerosOf (mulE (nI (rowLen 64 w2_4)).toNat 32))
 else Option.none)
 N (nI (rowLen 64 pts)) 0 pts []


noncomputable def E9 (N : Nat) : Env := { Θ := Th, Γ := GT2, K := K9, ν := N9, fuel := 0, lp := [(0, mkL N9_0 f9_0_sh (f9_0_F N)), (2, mkL N9_2 f9_2_sh (f9_2_F N)), (4, mkL N9_4 f9_4_sh (f9_4_F N)), (6, mkL N9_6 f9_6_sh (f9_6_F N)), (8, mkL N9_8 f9_8_sh (f9_8_F N)), (10, mkL N9_10 f9_10_sh (f9_10_F N))] }

theorem f9_0_st_eq {R : Type} (N : Nat) (K : X → AS → Option R) (n : Nat) (x1 : Int) (x2 : Int) (x3 : List Int) (x4 : List (List Int)) : roundsOf (E9 N) N9_0 0 B9_0 K (n + 1) (fill f9_0_sh [.i x1, .i x2, .l x3, .ll x4]) = f9_0_st N (fun x1 x2 x3 x4 => roundsOf (E9 N) N9_0 0 B9_0 K n (fill f9_0_sh [.i x1, .i x2, .l x3, .ll x4])) (fun y1 y2 y3 y4 y5 y6 y7 y8 y9 y10 y11 => K (X.ret) (fill f9_0_ex1 [.i y1, .b y2, .i y3, .b y4, .i y5, .i y6, .l y7, .l y8, .l y9, .l y10, .ll y11])) (fun y1 y2 y3 y4 y5 => K (X.normal) (fill f9_0_ex2 [.b y1, .i y2, .i y3, .l y4, .ll y5])) x1 x2 x3 x4 := by kernel_rfl
theorem f9_0_lp_eq {R : Type} (N : Nat) (K : X → AS → Option R) : ∀ (n : Nat) (x1 : Int) (x2 : Int) (x3 : List Int) (x4 : List (List Int)), roundsOf (E9 N) N9_0 0 B9_0 K n (fill f9_0_sh [.i x1, .i x2, .l x3, .ll x4]) = f9_0_lp N (fun y1 y2 y3 y4 y5 y6 y7 y8 y9 y10 y11 => K (X.ret) (fill f9_0_ex1 [.i y1, .b y2, .i y3, .b y4, .i y5, .i y6, .l y7, .l y8, .l y9, .l y10, .ll y11])) (fun y1 y2 y3 y4 y5 => K (X.normal) (fill f9_0_ex2 [.b y1, .i y2, .i y3, .l y4, .ll y5])) n x1 x2 x3 x4
  | 0, _, _, _, _ => rfl
  | n + 1, x1, x2, x3, x4 => by
    rw [f9_0_st_eq, f9_0_lp, show (fun x1 x2 x3 x4 => roundsOf (E9 N) N9_0 0 B9_0 K n (fill f9_0_sh [.i x1, .i x2, .l x3, .ll x4])) = f9_0_lp N (fun y1 y2 y3 y4 y5 y6 y7 y8 y9 y10 y11 => K (X.ret) (fill f9_0_ex1 [.i y1, .b y2, .i y3, .b y4, .i y5, .i y6, .l y7, .l y8, .l y9, .l y10, .ll y11])) (fun y1 y2 y3 y4 y5 => K (X.normal) (fill f9_0_ex2 [.b y1, .i y2, .i y3, .l y4, .ll y5])) n from by funext x1 x2 x3 x4; exact f9_0_lp_eq N K n x1 x2 x3 x4]
theorem f9_0_ok (N : Nat) (hlp : LoopsOk Try.prog (E9 N).lp B9_0) (hΓ : CtxOk Try.prog (E9 N).Γ) : LoopOk Try.prog (mkL N9_0 f9_0_sh (f9_0_F N)) 0 B9_0 := by
  refine loopOk_of (E := E9 N) thOk hΓ mixed hlp ?_
  intro R ls K r h
  unfold f9_0_F at h
  split at h
  · exact ⟨N, by rw [f9_0_lp_eq]; exact h⟩
  · cases h
theorem f9_2_st_eq {R : Type} (N : Nat) (K : X → AS → Option R) (n : Nat) (x1 : Int) (x2 : Int) (x3 : Int) (x4 : List Int) (x5 : List Int) : roundsOf (E9 N) N9_2 2 B9_2 K (n + 1) (fill f9_2_sh [.i x1, .i x2, .i x3, .l x4, .l x5]) = f9_2_st N (fun x1 x2 x3 x4 x5 => roundsOf (E9 N) N9_2 2 B9_2 K n (fill f9_2_sh [.i x1, .i x2, .i x3, .l x4, .l x5])) (fun y1 y2 y3 y4 y5 y6 => K (X.normal) (fill f9_2_ex1 [.b y1, .i y2, .i y3, .i y4, .l y5, .l y6])) x1 x2 x3 x4 x5 := by kernel_rfl
theorem f9_2_lp_eq {R : Type} (N : Nat) (K : X → AS → Option R) : ∀ (n : Nat) (x1 : Int) (x2 : Int) (x3 : Int) (x4 : List Int) (x5 : List Int), roundsOf (E9 N) N9_2 2 B9_2 K n (fill f9_2_sh [.i x1, .i x2, .i x3, .l x4, .l x5]) = f9_2_lp N (fun y1 y2 y3 y4 y5 y6 => K (X.normal) (fill f9_2_ex1 [.b y1, .i y2, .i y3, .i y4, .l y5, .l y6])) n x1 x2 x3 x4 x5
  | 0, _, _, _, _, _ => rfl
  | n + 1, x1, x2, x3, x4, x5 => by
    rw [f9_2_st_eq, f9_2_lp, show (fun x1 x2 x3 x4 x5 => roundsOf (E9 N) N9_2 2 B9_2 K n (fill f9_2_sh [.i x1, .i x2, .i x3, .l x4, .l x5])) = f9_2_lp N (fun y1 y2 y3 y4 y5 y6 => K (X.normal) (fill f9_2_ex1 [.b y1, .i y2, .i y3, .i y4, .l y5, .l y6])) n from by funext x1 x2 x3 x4 x5; exact f9_2_lp_eq N K n x1 x2 x3 x4 x5]
theorem f9_2_ok (N : Nat) (hlp : LoopsOk Try.prog (E9 N).lp B9_2) (hΓ : CtxOk Try.prog (E9 N).Γ) : LoopOk Try.prog (mkL N9_2 f9_2_sh (f9_2_F N)) 2 B9_2 := by
  refine loopOk_of (E := E9 N) thOk hΓ mixed hlp ?_
  intro R ls K r h
  unfold f9_2_F at h
  split at h
  · exact ⟨N, by rw [f9_2_lp_eq]; exact h⟩
  · cases h
theorem f9_6_st_eq {R : Type} (N : Nat) (K : X → AS → Option R) (n : Nat) (x1 : Int) (x2 : Int) (x3 : Int) (x4 : List Int) (x5 : List Int) : roundsOf (E9 N) N9_6 6 B9_6 K (n + 1) (fill f9_6_sh [.i x1, .i x2, .i x3, .l x4, .l x5]) = f9_6_st N (fun x1 x2 x3 x4 x5 => roundsOf (E9 N) N9_6 6 B9_6 K n (fill f9_6_sh [.i x1, .i x2, .i x3, .l x4, .l x5])) (fun y1 y2 y3 y4 y5 y6 => K (X.normal) (fill f9_6_ex1 [.b y1, .i y2, .i y3, .i y4, .l y5, .l y6])) x1 x2 x3 x4 x5 := by kernel_rfl
theorem f9_6_lp_eq {R : Type} (N : Nat) (K : X → AS → Option R) : ∀ (n : Nat) (x1 : Int) (x2 : Int) (x3 : Int) (x4 : List Int) (x5 : List Int), roundsOf (E9 N) N9_6 6 B9_6 K n (fill f9_6_sh [.i x1, .i x2, .i x3, .l x4, .l x5]) = f9_6_lp N (fun y1 y2 y3 y4 y5 y6 => K (X.normal) (fill f9_6_ex1 [.b y1, .i y2, .i y3, .i y4, .l y5, .l y6])) n x1 x2 x3 x4 x5
  | 0, _, _, _, _, _ => rfl
  | n + 1, x1, x2, x3, x4, x5 => by
    rw [f9_6_st_eq, f9_6_lp, show (fun x1 x2 x3 x4 x5 => roundsOf (E9 N) N9_6 6 B9_6 K n (fill f9_6_sh [.i x1, .i x2, .i x3, .l x4, .l x5])) = f9_6_lp N (fun y1 y2 y3 y4 y5 y6 => K (X.normal) (fill f9_6_ex1 [.b y1, .i y2, .i y3, .i y4, .l y5, .l y6])) n from by funext x1 x2 x3 x4 x5; exact f9_6_lp_eq N K n x1 x2 x3 x4 x5]
theorem f9_6_ok (N : Nat) (hlp : LoopsOk Try.prog (E9 N).lp B9_6) (hΓ : CtxOk Try.prog (E9 N).Γ) : LoopOk Try.prog (mkL N9_6 f9_6_sh (f9_6_F N)) 6 B9_6 := by
  refine loopOk_of (E := E9 N) thOk hΓ mixed hlp ?_
  intro R ls K r h
  unfold f9_6_F at h
  split at h
  · exact ⟨N, by rw [f9_6_lp_eq]; exact h⟩
  · cases h
theorem f9_4_st_eq {R : Type} (N : Nat) (K : X → AS → Option R) (n : Nat) (x1 : Int) (x2 : Int) (x3 : List Int) (x4 : List Int) : roundsOf (E9 N) N9_4 4 B9_4 K (n + 1) (fill f9_4_sh [.i x1, .i x2, .l x3, .l x4]) = f9_4_st N (fun x1 x2 x3 x4 => roundsOf (E9 N) N9_4 4 B9_4 K n (fill f9_4_sh [.i x1, .i x2, .l x3, .l x4])) (fun y1 y2 y3 y4 y5 => K (X.normal) (fill f9_4_ex1 [.b y1, .i y2, .i y3, .l y4, .l y5])) x1 x2 x3 x4 := by kernel_rfl
theorem f9_4_lp_eq {R : Type} (N : Nat) (K : X → AS → Option R) : ∀ (n : Nat) (x1 : Int) (x2 : Int) (x3 : List Int) (x4 : List Int), roundsOf (E9 N) N9_4 4 B9_4 K n (fill f9_4_sh [.i x1, .i x2, .l x3, .l x4]) = f9_4_lp N (fun y1 y2 y3 y4 y5 => K (X.normal) (fill f9_4_ex1 [.b y1, .i y2, .i y3, .l y4, .l y5])) n x1 x2 x3 x4
  | 0, _, _, _, _ => rfl
  | n + 1, x1, x2, x3, x4 => by
    rw [f9_4_st_eq, f9_4_lp, show (fun x1 x2 x3 x4 => roundsOf (E9 N) N9_4 4 B9_4 K n (fill f9_4_sh [.i x1, .i x2, .l x3, .l x4])) = f9_4_lp N (fun y1 y2 y3 y4 y5 => K (X.normal) (fill f9_4_ex1 [.b y1, .i y2, .i y3, .l y4, .l y5])) n from by funext x1 x2 x3 x4; exact f9_4_lp_eq N K n x1 x2 x3 x4]
theorem f9_4_ok (N : Nat) (hlp : LoopsOk Try.prog (E9 N).lp B9_4) (hΓ : CtxOk Try.prog (E9 N).Γ) : LoopOk Try.prog (mkL N9_4 f9_4_sh (f9_4_F N)) 4 B9_4 := by
  refine loopOk_of (E := E9 N) thOk hΓ mixed hlp ?_
  intro R ls K r h
  unfold f9_4_F at h
  split at h
  · exact ⟨N, by rw [f9_4_lp_eq]; exact h⟩
  · cases h
theorem f9_10_st_eq {R : Type} (N : Nat) (K : X → AS → Option R) (n : Nat) (x1 : Int) (x2 : Int) (x3 : Int) (x4 : List Int) (x5 : List Int) (x6 : List Int) : roundsOf (E9 N) N9_10 10 B9_10 K (n + 1) (fill f9_10_sh [.i x1, .i x2, .i x3, .l x4, .l x5, .l x6]) = f9_10_st N (fun x1 x2 x3 x4 x5 x6 => roundsOf (E9 N) N9_10 10 B9_10 K n (fill f9_10_sh [.i x1, .i x2, .i x3, .l x4, .l x5, .l x6])) (fun y1 y2 y3 y4 y5 y6 y7 => K (X.normal) (fill f9_10_ex1 [.b y1, .i y2, .i y3, .i y4, .l y5, .l y6, .l y7])) x1 x2 x3 x4 x5 x6 := by kernel_rfl
theorem f9_10_lp_eq {R : Type} (N : Nat) (K : X → AS → Option R) : ∀ (n : Nat) (x1 : Int) (x2 : Int) (x3 : Int) (x4 : List Int) (x5 : List Int) (x6 : List Int), roundsOf (E9 N) N9_10 10 B9_10 K n (fill f9_10_sh [.i x1, .i x2, .i x3, .l x4, .l x5, .l x6]) = f9_10_lp N (fun y1 y2 y3 y4 y5 y6 y7 => K (X.normal) (fill f9_10_ex1 [.b y1, .i y2, .i y3, .i y4, .l y5, .l y6, .l y7])) n x1 x2 x3 x4 x5 x6
  | 0, _, _, _, _, _, _ => rfl
  | n + 1, x1, x2, x3, x4, x5, x6 => by
    rw [f9_10_st_eq, f9_10_lp, show (fun x1 x2 x3 x4 x5 x6 => roundsOf (E9 N) N9_10 10 B9_10 K n (fill f9_10_sh [.i x1, .i x2, .i x3, .l x4, .l x5, .l x6])) = f9_10_lp N (fun y1 y2 y3 y4 y5 y6 y7 => K (X.normal) (fill f9_10_ex1 [.b y1, .i y2, .i y3, .i y4, .l y5, .l y6, .l y7])) n from by funext x1 x2 x3 x4 x5 x6; exact f9_10_lp_eq N K n x1 x2 x3 x4 x5 x6]
theorem f9_10_ok (N : Nat) (hlp : LoopsOk Try.prog (E9 N).lp B9_10) (hΓ : CtxOk Try.prog (E9 N).Γ) : LoopOk Try.prog (mkL N9_10 f9_10_sh (f9_10_F N)) 10 B9_10 := by
  refine loopOk_of (E := E9 N) thOk hΓ mixed hlp ?_
  intro R ls K r h
  unfold f9_10_F at h
  split at h
  · exact ⟨N, by rw [f9_10_lp_eq]; exact h⟩
  · cases h
theorem f9_8_st_eq {R : Type} (N : Nat) (K : X → AS → Option R) (n : Nat) (x1 : Int) (x2 : Int) (x3 : List Int) (x4 : List Int) (x5 : List Int) : roundsOf (E9 N) N9_8 8 B9_8 K (n + 1) (fill f9_8_sh [.i x1, .i x2, .l x3, .l x4, .l x5]) = f9_8_st N (fun x1 x2 x3 x4 x5 => roundsOf (E9 N) N9_8 8 B9_8 K n (fill f9_8_sh [.i x1, .i x2, .l x3, .l x4, .l x5])) (fun y1 y2 y3 y4 y5 y6 => K (X.normal) (fill f9_8_ex1 [.b y1, .i y2, .i y3, .l y4, .l y5, .l y6])) x1 x2 x3 x4 x5 := by kernel_rfl
theorem f9_8_lp_eq {R : Type} (N : Nat) (K : X → AS → Option R) : ∀ (n : Nat) (x1 : Int) (x2 : Int) (x3 : List Int) (x4 : List Int) (x5 : List Int), roundsOf (E9 N) N9_8 8 B9_8 K n (fill f9_8_sh [.i x1, .i x2, .l x3, .l x4, .l x5]) = f9_8_lp N (fun y1 y2 y3 y4 y5 y6 => K (X.normal) (fill f9_8_ex1 [.b y1, .i y2, .i y3, .l y4, .l y5, .l y6])) n x1 x2 x3 x4 x5
  | 0, _, _, _, _, _ => rfl
  | n + 1, x1, x2, x3, x4, x5 => by
    rw [f9_8_st_eq, f9_8_lp, show (fun x1 x2 x3 x4 x5 => roundsOf (E9 N) N9_8 8 B9_8 K n (fill f9_8_sh [.i x1, .i x2, .l x3, .l x4, .l x5])) = f9_8_lp N (fun y1 y2 y3 y4 y5 y6 => K (X.normal) (fill f9_8_ex1 [.b y1, .i y2, .i y3, .l y4, .l y5, .l y6])) n from by funext x1 x2 x3 x4 x5; exact f9_8_lp_eq N K n x1 x2 x3 x4 x5]
theorem f9_8_ok (N : Nat) (hlp : LoopsOk Try.prog (E9 N).lp B9_8) (hΓ : CtxOk Try.prog (E9 N).Γ) : LoopOk Try.prog (mkL N9_8 f9_8_sh (f9_8_F N)) 8 B9_8 := by
  refine loopOk_of (E := E9 N) thOk hΓ mixed hlp ?_
  intro R ls K r h
  unfold f9_8_F at h
  split at h
  · exact ⟨N, by rw [f9_8_lp_eq]; exact h⟩
  · cases h

theorem lok9_10 (N : Nat) (hΓ : CtxOk Try.prog GT2) : LoopOk Try.prog (mkL N9_10 f9_10_sh (f9_10_F N)) 10 B9_10 := f9_10_ok N (loopsOk_of (l := []) (by kernel_rfl) trivial) hΓ
theorem lok9_8 (N : Nat) (hΓ : CtxOk Try.prog GT2) : LoopOk Try.prog (mkL N9_8 f9_8_sh (f9_8_F N)) 8 B9_8 := f9_8_ok N (loopsOk_of (l := [(10, B9_10)]) (by kernel_rfl) (allOk_cons (L := mkL N9_10 f9_10_sh (f9_10_F N)) rfl (lok9_10 N hΓ) trivial)) hΓ
theorem lok9_6 (N : Nat) (hΓ : CtxOk Try.prog GT2) : LoopOk Try.prog (mkL N9_6 f9_6_sh (f9_6_F N)) 6 B9_6 := f9_6_ok N (loopsOk_of (l := []) (by kernel_rfl) trivial) hΓ
theorem lok9_4 (N : Nat) (hΓ : CtxOk Try.prog GT2) : LoopOk Try.prog (mkL N9_4 f9_4_sh (f9_4_F N)) 4 B9_4 := f9_4_ok N (loopsOk_of (l := [(6, B9_6)]) (by kernel_rfl) (allOk_cons (L := mkL N9_6 f9_6_sh (f9_6_F N)) rfl (lok9_6 N hΓ) trivial)) hΓ
theorem lok9_2 (N : Nat) (hΓ : CtxOk Try.prog GT2) : LoopOk Try.prog (mkL N9_2 f9_2_sh (f9_2_F N)) 2 B9_2 := f9_2_ok N (loopsOk_of (l := []) (by kernel_rfl) trivial) hΓ
theorem lok9_0 (N : Nat) (hΓ : CtxOk Try.prog GT2) : LoopOk Try.prog (mkL N9_0 f9_0_sh (f9_0_F N)) 0 B9_0 := f9_0_ok N (loopsOk_of (l := []) (by kernel_rfl) trivial) hΓ
theorem f9_contract (N : Nat) (hΓ : CtxOk Try.prog GT2) : Contract Try.prog 9 { sig := S9, impl := fun _ ds k => call (E9 N) S9 161 B9 R9 ds k } :=
  call_contract (E := E9 N) thOk hΓ mixed ok9.look ok9.body ok9.n ok9.rv ok9.name rfl (by decide) (loopsOk_of (l := [(0, B9_0), (2, B9_2), (4, B9_4), (6, B9_6), (8, B9_8), (10, B9_10)]) (by kernel_rfl) (allOk_cons (L := mkL N9_0 f9_0_sh (f9_0_F N)) rfl (lok9_0 N hΓ) (allOk_cons (L := mkL N9_2 f9_2_sh (f9_2_F N)) rfl (lok9_2 N hΓ) (allOk_cons (L := mkL N9_4 f9_4_sh (f9_4_F N)) rfl (lok9_4 N hΓ) (allOk_cons (L := mkL N9_6 f9_6_sh (f9_6_F N)) rfl (lok9_6 N hΓ) (allOk_cons (L := mkL N9_8 f9_8_sh (f9_8_F N)) rfl (lok9_8 N hΓ) (allOk_cons (L := mkL N9_10 f9_10_sh (f9_10_F N)) rfl (lok9_10 N hΓ) trivial)))))))
theorem f9_raw_eq {R : Type} (N : Nat) (pts : List Int) (k : List DV → Option R) : call (E9 N) S9 161 B9 R9 [.lst (.mix ck32) 64 pts] k = f9_raw N pts k := by kernel_rfl
end Go.Proofs.Ytogcijgklnfjjaa

namespace Go.Proofs.Ytogcijgklnfjjaa
open Go Go.Eng
set_option maxRecDepth 100000
set_option linter.unusedVariables false

noncomputable def arrN (f : Nat → Nat) (n : Nat) : List Int := headG (fun i => sN (f i)) n
def upd (f : Nat → Nat) (i v j : Nat) : Nat := if j = i then v else f j
theorem arr_len (f : Nat → Nat) (n : Nat) : (arrN f n).length = n * 32 := headG_len (fun i => sN_len _) n
theorem arr_div (f : Nat → Nat) (n : Nat) : (arrN f n).length / 32 = n := by rw [arr_len]; omega
theorem arr_rows (f : Nat → Nat) (n : Nat) : nI (rowLen 32 (arrN f n)) = (n : Int) := by
  show ((((arrN f n).length / 32 : Nat)) : Int) = _
  rw [arr_div]
theorem arr_congr {f g : Nat → Nat} : ∀ {n}, (∀ i, i < n → f i = g i) → arrN f n = arrN g n
  | 0, _ => rfl
  | n + 1, h => by
    show headG _ n ++ sN (f n) = headG _ n ++ sN (g n)
    rw [h n (by omega)]
    exact congrArg (· ++ sN (g n)) (arr_congr (n := n) fun i hi => h i (by omega))
theorem arr_succ (f : Nat → Nat) (n : Nat) : arrN f (n + 1) = arrN f n ++ sN (f n) := rfl
theorem arr_split (f : Nat → Nat) {i : Nat} : ∀ {n}, i < n → ∃ C, arrN f n = arrN f i ++ (sN (f i) ++ C)
  | n + 1, h => by
    by_cases e : i = n
    · subst e; exact ⟨[], by rw [arr_succ, List.append_nil]⟩
    · obtain ⟨C, hC⟩ := arr_split f (i := i) (n := n) (by omega)
      exact ⟨C ++ sN (f n), by rw [arr_succ, hC]; simp [List.append_assoc]⟩
theorem arr_el (f : Nat → Nat) {i n : Nat} (h : i < n) : List.take 32 (List.drop (i * 32) (arrN f n)) = sN (f i) := by
  obtain ⟨C, hC⟩ := arr_split f h
  rw [hC, List.drop_left' (arr_len f i), List.take_left' (sN_len _)]
theorem arr_elF (f : Nat → Nat) {i n : Nat} (h : i < n) : elF (arrN f n) i = sN (f i) := arr_el f h
theorem arr_split2 (f : Nat → Nat) (v : Nat) {i : Nat} : ∀ {n}, i < n → ∃ C, arrN f n = arrN f i ++ (sN (f i) ++ C) ∧ arrN (upd f i v) n = arrN f i ++ (sN v ++ C)
  | n + 1, h => by
    by_cases e : i = n
    · subst e
      refine ⟨[], by rw [arr_succ, List.append_nil], ?_⟩
      rw [arr_succ, List.append_nil, show upd f i v i = v by simp [upd]]
      exact congrArg (· ++ sN v) (arr_congr fun j hj => by simp [upd, show j ≠ i by omega])
    · obtain ⟨C, h1, h2⟩ := arr_split2 f v (i := i) (n := n) (by omega)
      refine ⟨C ++ sN (f n), by rw [arr_succ, h1]; simp [List.append_assoc], ?_⟩
      rw [arr_succ, h2, show upd f i v n = f n by simp [upd, show n ≠ i from fun q => e q.symm]]; simp [List.append_assoc]
theorem arr_set (f : Nat → Nat) (v : Nat) {i n : Nat} (h : i < n) : splice (arrN f n) (.at (i * 32)) (sN v) = arrN (upd f i v) n := by
  obtain ⟨C, h1, h2⟩ := arr_split2 f v h
  rw [h1, h2]
  exact splice_mid (arr_len f i) (by rw [sN_len, sN_len])
theorem arr_zero : ∀ n, zerosOf (n * 32) = arrN (fun _ => 0) n
  | 0 => rfl
  | n + 1 => by
    rw [arr_succ, ← arr_zero n, ← b_zero', show (n + 1) * 32 = n * 32 + 32 by omega, zeros_app]; rfl
theorem arr_okF {f : Nat → Nat} {n : Nat} (h : n * 32 ≤ 1073741824) : okF (arrN f n) = true := by
  unfold okF
  rw [Bool.and_eq_true, Bool.and_eq_true]
  refine ⟨⟨?_, ?_⟩, ?_⟩
  · rw [arr_len, show n * 32 % 32 = 0 by omega]; rfl
  · rw [arr_len]; exact Nat.ble_eq ▸ h
  · rw [List.all_eq_true]
    clear h
    induction n with
    | zero => intro b hb; cases hb
    | succ n ih =>
      intro b hb
      rw [arr_succ] at hb
      rcases List.mem_append.1 hb with hb | hb
      · exact ih b hb
      · have := okB_sN (f n)
        unfold okB at this
        rw [Bool.and_eq_true, List.all_eq_true] at this
        exact this.2 b hb
theorem sN_inj1 {a b : Nat} (ha : a < ell) (hb : b < ell) (h : sN a = sN b) : a = b := by
  have := congrArg vS h
  rwa [vS_sN ha, vS_sN hb] at this
theorem wAdd {i : Nat} (h : i < 1073741824) : IntKind.i64.wrap ((i : Int) + 1) = ((i + 1 : Nat) : Int) := by
  rw [show (i : Int) + 1 = ((i + 1 : Nat) : Int) by omega]; exact wi64 (by omega)
theorem wSub {i : Nat} (h : i < 1073741824) : IntKind.i64.wrap (((i + 1 : Nat) : Int) - 1) = (i : Int) := by
  rw [show ((i + 1 : Nat) : Int) - 1 = (i : Int) by omega]; exact wi64 (by omega)
theorem toN (i : Nat) : mulE (Int.toNat (i : Int)) 32 = i * 32 := rfl
theorem ge0 (i : Nat) : decide ((0 : Int) ≤ (i : Int)) = true := decide_eq_true (by omega)
theorem ltT {i n : Nat} (h : i < n) : decide ((i : Int) < (n : Int)) = true := decide_eq_true (by omega)
theorem ltF {i n : Nat} (h : ¬ i < n) : decide ((i : Int) < (n : Int)) = false := decide_eq_false (by omega)

def iterF {α : Type} (step : Nat → α → α) : Nat → Nat → α → α
  | 0, _, g => g
  | m + 1, i, g => iterF step m (i + 1) (step i g)
theorem iterF_last {α : Type} (step : Nat → α → α) : ∀ (m i : Nat) (g : α), iterF step (m + 1) i g = step (i + m) (iterF step m i g)
  | 0, i, g => rfl
  | m + 1, i, g => by
    show iterF step (m + 1) (i + 1) (step i g) = step (i + (m + 1)) (iterF step m (i + 1) (step i g))
    rw [iterF_last step m (i + 1) (step i g), show i + 1 + m = i + (m + 1) by omega]
end Go.Proofs.Ytogcijgklnfjjaa

namespace Go.Proofs.Ytogcijgklnfjjaa
open Go Go.Eng
set_option maxRecDepth 100000
set_option linter.unusedVariables false

end Go.Proofs.Ytogcijgklnfjjaa

namespace Go.Proofs.Ytogcijgklnfjjaa
open Go Go.Eng
set_option maxRecDepth 100000
set_option linter.unusedVariables false

def LtE (g : Nat → Nat) : Prop := ∀ j, g j < ell
theorem LtE.upd {g : Nat → Nat} (h : LtE g) {v : Nat} (hv : v < ell) (i : Nat) : LtE (upd g i v) := fun j => by
  unfold Proofs.Ytogcijgklnfjjaa.upd; split
  · exact hv
  · exact h j
theorem ltE_zero : LtE (fun _ => 0) := fun _ => ell_pos
theorem iterF_inv {α : Type} {P : α → Prop} {step : Nat → α → α} (hs : ∀ i g, P g → P (step i g)) : ∀ (m i : Nat) (g : α), P g → P (iterF step m i g)
  | 0, _, _, h => h
  | m + 1, i, g, h => iterF_inv hs m (i + 1) _ (hs i g h)

noncomputable def timesSt (p : Nat → Nat) (a i : Nat) (g : Nat → Nat) : Nat → Nat :=
  upd (upd g (i + 1) (addN (g (i + 1)) (p i))) i (difN (upd g (i + 1) (addN (g (i + 1)) (p i)) i) (mulN a (p i)))
theorem timesSt_lt {p : Nat → Nat} {a i : Nat} {g : Nat → Nat} (h : LtE g) : LtE (timesSt p a i g) := (h.upd (addN_lt _ _) _).upd (difN_lt _ _) _
noncomputable def numF (xs : List Int) (i : Nat) : Nat := vS (elF xs i)
theorem numF_lt (xs : List Int) : LtE (numF xs) := fun i => vS_lt _
noncomputable def timesG (p : Nat → Nat) (a n : Nat) : Nat → Nat := iterF (timesSt p a) n 0 (fun _ => 0)
theorem timesG_lt (p : Nat → Nat) (a n : Nat) : LtE (timesG p a n) := iterF_inv (fun i g h => timesSt_lt h) _ _ _ ltE_zero

end Go.Proofs.Ytogcijgklnfjjaa

namespace Go.Proofs.Ytogcijgklnfjjaa
open Go Go.Eng
set_option maxRecDepth 100000
set_option linter.unusedVariables false

end Go.Proofs.Ytogcijgklnfjjaa

namespace Go.Proofs.Ytogcijgklnfjjaa
open Go Go.Eng
set_option maxRecDepth 100000
set_option linter.unusedVariables false

theorem invN_zero : invN 0 = 0 := by
  rw [invN_def, powN_def, Nat.zero_pow (by rw [ell_def]; decide), Nat.zero_mod]
theorem iterF_congr {α : Type} {s t : Nat → α → α} : ∀ (m i : Nat) (g : α), (∀ k g, i ≤ k → k < i + m → s k g = t k g) → iterF s m i g = iterF t m i g
  | 0, _, _, _ => rfl
  | m + 1, i, g, h => by
    show iterF s m (i + 1) (s i g) = iterF t m (i + 1) (t i g)
    rw [h i g (by omega) (by omega)]
    exact iterF_congr m (i + 1) _ fun k g h1 h2 => h k g (by omega) (by omega)
theorem numF_arr {p : Nat → Nat} (hp : LtE p) {m i : Nat} (h : i < m) : numF (arrN p m) i = p i := by
  unfold numF; rw [arr_elF p h, vS_sN (hp i)]
structure PB where
  p : Nat → Nat
  m : Nat
  b : Nat
noncomputable def coefIn (X : Nat → Nat) (i k : Nat) (s : PB) : PB := if k = i then s else ⟨timesG s.p (X k) s.m, s.m + 1, mulN s.b (difN (X i) (X k))⟩
noncomputable def onePB : PB := ⟨fun i => if i = 0 then 1 else 0, 1, 1⟩
noncomputable def basPB (X : Nat → Nat) (i n : Nat) : PB := iterF (coefIn X i) n 0 onePB
structure PBOk (s : PB) : Prop where
  p : LtE s.p
  b : s.b < ell
theorem onePB_ok : PBOk onePB := ⟨fun i => by unfold onePB; dsimp only; split; exact one_lt_ell; exact ell_pos, one_lt_ell⟩
theorem coefIn_ok {X : Nat → Nat} {i k : Nat} {s : PB} (h : PBOk s) : PBOk (coefIn X i k s) := by
  unfold coefIn; split
  · exact h
  · exact ⟨timesG_lt _ _ _, mulN_lt _ _⟩
theorem coefIn_m2 (X : Nat → Nat) (i : Nat) : ∀ (j k : Nat) (s : PB), (iterF (coefIn X i) j k s).m + (if k ≤ i ∧ i < k + j then 1 else 0) = s.m + j
  | 0, k, s => by rw [if_neg (by omega)]; rfl
  | j + 1, k, s => by
    have ih := coefIn_m2 X i j (k + 1) (coefIn X i k s)
    show (iterF (coefIn X i) j (k + 1) (coefIn X i k s)).m + _ = _
    by_cases e : k = i
    · have h2 : (coefIn X i k s).m = s.m := by unfold coefIn; rw [if_pos e]
      rw [if_neg (by omega)] at ih
      rw [if_pos (by omega)]; omega
    · have h2 : (coefIn X i k s).m = s.m + 1 := by unfold coefIn; rw [if_neg e]
      by_cases h : k ≤ i ∧ i < k + (j + 1)
      · rw [if_pos (by omega)] at ih; rw [if_pos h]; omega
      · rw [if_neg (by omega)] at ih; rw [if_neg h]; omega
theorem basPB_m (X : Nat → Nat) {i n : Nat} (h : i < n) : (basPB X i n).m = n := by
  have := coefIn_m2 X i n 0 onePB
  rw [if_pos (by omega)] at this
  show (iterF (coefIn X i) n 0 onePB).m = n
  have e : onePB.m = 1 := rfl
  omega
theorem basPB_ok (X : Nat → Nat) (i n : Nat) : PBOk (basPB X i n) := iterF_inv (fun k g h => coefIn_ok h) _ _ _ onePB_ok

theorem bne_nat (a b : Nat) : ((a : Int) != (b : Int)) = !decide (a = b) := by
  by_cases h : a = b
  · subst h; simp
  · rw [decide_eq_false h]; simp; omega
noncomputable def addSt (f : Nat) (p : Nat → Nat) (k : Nat) (g : Nat → Nat) : Nat → Nat := upd g k (addN (mulN f (p k)) (g k))
noncomputable def coefSt (X Y : Nat → Nat) (n i : Nat) (g : Nat → Nat) : Nat → Nat :=
  iterF (addSt (mulN (Y i) (invN (basPB X i n).b)) (basPB X i n).p) n 0 g
theorem coefSt_lt {X Y : Nat → Nat} {n i : Nat} {g : Nat → Nat} (h : LtE g) : LtE (coefSt X Y n i g) := iterF_inv (fun k g h => h.upd (addN_lt _ _) _) _ _ _ h
noncomputable def coefG (X Y : Nat → Nat) (n : Nat) : Nat → Nat := iterF (coefSt X Y n) n 0 (fun _ => 0)
theorem coefG_lt (X Y : Nat → Nat) (n : Nat) : LtE (coefG X Y n) := iterF_inv (fun k g h => coefSt_lt h) _ _ _ ltE_zero

end Go.Proofs.Ytogcijgklnfjjaa

namespace Go.Proofs.Ytogcijgklnfjjaa
open Go Go.Eng
set_option maxRecDepth 100000
set_option linter.unusedVariables false

def ptX (p : List Int) (i : Nat) : List Int := List.take 32 (List.drop (i * 64) p)
def ptY (p : List Int) (i : Nat) : List Int := List.take 32 (List.drop (i * 64 + 32) p)
def okP (p : List Int) : Bool := (Nat.beq (p.length % 64) 0 && Nat.ble p.length 1073741824) && p.all fun b => decide (0 ≤ b) && decide (b < 256)
theorem okP_n {p : List Int} (h : okP p = true) : p.length = (p.length / 64) * 64 ∧ p.length ≤ 1073741824 := by
  unfold okP at h
  simp only [Bool.and_eq_true] at h
  have h1 := Nat.eq_of_beq_eq_true h.1.1
  have h2 := Nat.le_of_ble_eq_true h.1.2
  omega
theorem okB_take {p : List Int} (h : p.all (fun b => decide (0 ≤ b) && decide (b < 256)) = true) {e : Nat} (he : e + 32 ≤ p.length) : okB (List.take 32 (List.drop e p)) = true := by
  have h3 := List.all_eq_true.1 h
  unfold okB
  rw [decide_eq_true (by rw [List.length_take, List.length_drop]; omega), Bool.true_and, List.all_eq_true]
  intro b hb
  exact h3 b (List.mem_of_mem_drop (List.mem_of_mem_take hb))
theorem okP_x {p : List Int} (h : okP p = true) {i : Nat} (hi : i < p.length / 64) : okB (ptX p i) = true := by
  have hn := okP_n h
  unfold okP at h
  rw [Bool.and_eq_true] at h
  exact okB_take h.2 (by omega)
theorem okP_y {p : List Int} (h : okP p = true) {i : Nat} (hi : i < p.length / 64) : okB (ptY p i) = true := by
  have hn := okP_n h
  unfold okP at h
  rw [Bool.and_eq_true] at h
  exact okB_take h.2 (by omega)
theorem rows64 (p : List Int) : nI (rowLen 64 p) = ((p.length / 64 : Nat) : Int) := rfl
noncomputable def pX (p : List Int) (i : Nat) : Nat := vS (ptX p i)
noncomputable def pY (p : List Int) (i : Nat) : Nat := vS (ptY p i)
theorem pX_lt (p : List Int) : LtE (pX p) := fun _ => vS_lt _
theorem pY_lt (p : List Int) : LtE (pY p) := fun _ => vS_lt _

def dupAll (key : Nat → List Int) : Nat → Nat → Bool
  | 0, _ => false
  | j + 1, i => hasK key (key i) i || dupAll key j (i + 1)
theorem dupAll_iff {key : Nat → List Int} : ∀ {j i}, dupAll key j i = true ↔ ∃ a b, a < b ∧ i ≤ b ∧ b < i + j ∧ key a = key b
  | 0, i => by
    simp only [dupAll, Bool.false_eq_true, false_iff]
    rintro ⟨a, b, h1, h2, h3, _⟩; omega
  | j + 1, i => by
    unfold dupAll
    rw [Bool.or_eq_true, hasK_iff, dupAll_iff (j := j)]
    constructor
    · rintro (⟨a, h1, h2⟩ | ⟨a, b, h1, h2, h3, h4⟩)
      · exact ⟨a, i, h1, by omega, by omega, h2⟩
      · exact ⟨a, b, h1, by omega, by omega, h4⟩
    · rintro ⟨a, b, h1, h2, h3, h4⟩
      by_cases e : b = i
      · subst e; exact .inl ⟨a, h1, h4⟩
      · exact .inr ⟨a, b, h1, by omega, by omega, h4⟩
noncomputable def keyP (p : List Int) (i : Nat) : List Int := sN (pX p i)
noncomputable def dupsP (p : List Int) : Bool := dupAll (keyP p) (p.length / 64) 0

theorem f9_seen {R : Type} {N : Nat} (K : Int → Option R) (k2 : Bool → Int → Int → List Int → List (List Int) → Option R) {p : List Int} {n : Nat} (hp : okP p = true) (hn : p.length / 64 = n) (hb : n ≤ 30000) :
    ∀ j i : Nat, i + j = n → ∀ fuel, j < fuel → f9_0_lp N (fun w _ _ _ _ _ _ _ _ _ _ => K w) k2 fuel (n : Int) (i : Int) p (seenG (keyP p) i) =
      bif dupAll (keyP p) j i then K 5 else k2 false (n : Int) (n : Int) p (seenG (keyP p) n) := by
  intro j
  induction j with
  | zero =>
    intro i h fuel hf
    obtain ⟨f, rfl⟩ : ∃ f, fuel = f + 1 := ⟨fuel - 1, by omega⟩
    show f9_0_st N (f9_0_lp N _ _ f) _ _ _ _ _ _ = _
    unfold f9_0_st
    rw [ltF (by omega), cond_false, show i = n by omega]
    rfl
  | succ j ih =>
    intro i h fuel hf
    obtain ⟨f, rfl⟩ : ∃ f, fuel = f + 1 := ⟨fuel - 1, by omega⟩
    show f9_0_st N (f9_0_lp N _ _ f) _ _ _ _ _ _ = _
    unfold f9_0_st
    have e1 : List.take 32 (List.drop (Int.toNat (i : Int) * 64 + 0) p) = ptX p i := rfl
    have hk : sN (addN (vS (ptX p i)) (vS (List.replicate 32 (0 : Int)))) = keyP p i := by
      rw [b_zero', vS_sN ell_pos, addN_zero (vS_lt _)]; rfl
    have hz : okB (List.replicate 32 (0 : Int)) = true := by rw [b_zero']; exact okB_sN 0
    rw [ltT (show i < n by omega), rows64, hn, ge0, ltT (show i < n by omega), e1, okP_x hp (by omega), hz, hk, seen_has, wAdd (by omega)]
    simp only [Bool.and_self, cond_true]
    unfold dupAll
    cases hasK (keyP p) (keyP p i) i with
    | true => rfl
    | false =>
      rw [cond_false, Bool.false_or]
      exact ih (i + 1) (by omega) f (by omega)

theorem f9_ys {R : Type} {N : Nat} (k1 : Bool → Int → Int → Int → List Int → List Int → Option R) {p : List Int} {n : Nat} (hp : okP p = true) (hn : p.length / 64 = n) (hb : n ≤ 30000) :
    ∀ j i : Nat, i + j = n → ∀ fuel, j < fuel → ∀ g, LtE g → f9_2_lp N k1 fuel (n : Int) (n : Int) (i : Int) p (arrN g n) = k1 false (n : Int) (n : Int) (n : Int) p (arrN (iterF (fun i g => upd g i (pY p i)) j i g) n) := by
  intro j
  induction j with
  | zero =>
    intro i h fuel hf g hg
    obtain ⟨f, rfl⟩ : ∃ f, fuel = f + 1 := ⟨fuel - 1, by omega⟩
    show f9_2_st N (f9_2_lp N _ f) _ _ _ _ _ _ = _
    unfold f9_2_st
    rw [ltF (by omega), cond_false, show i = n by omega]
    rfl
  | succ j ih =>
    intro i h fuel hf g hg
    obtain ⟨f, rfl⟩ : ∃ f, fuel = f + 1 := ⟨fuel - 1, by omega⟩
    show f9_2_st N (f9_2_lp N _ f) _ _ _ _ _ _ = _
    unfold f9_2_st
    have e1 : List.take 32 (List.drop (Int.toNat (i : Int) * 64 + (0 + 32)) p) = ptY p i := rfl
    have hk : addN (vS (ptY p i)) (vS (List.replicate 32 (0 : Int))) = pY p i := by
      rw [b_zero', vS_sN ell_pos, addN_zero (vS_lt _)]; rfl
    have hz : okB (List.replicate 32 (0 : Int)) = true := by rw [b_zero']; exact okB_sN 0
    rw [ltT (show i < n by omega), rows64, hn, ge0, ltT (show i < n by omega), e1, okP_y hp (by omega), hz, hk, arr_rows, ltT (show i < n by omega), wAdd (by omega), toN, arr_set g _ (show i < n by omega)]
    simp only [Bool.and_self, cond_true]
    exact ih (i + 1) (by omega) f (by omega) _ (hg.upd (vS_lt _) _)

def downF {α : Type} (step : Nat → α → α) (k : Nat) : Nat → α → α
  | 0, g => g
  | m + 1, g => downF step k m (step (k + m) g)
theorem downF_inv {α : Type} {P : α → Prop} {step : Nat → α → α} (hs : ∀ i g, P g → P (step i g)) (k : Nat) : ∀ (m : Nat) (g : α), P g → P (downF step k m g)
  | 0, _, h => h
  | m + 1, g, h => downF_inv hs k m _ (hs _ g h)

noncomputable def ddSt (X : Nat → Nat) (k i : Nat) (g : Nat → Nat) : Nat → Nat := upd g i (mulN (difN (g i) (g (i - 1))) (invN (difN (X i) (X (i - k)))))
theorem f9_dd {R : Type} {N : Nat} (k1 : Bool → Int → Int → Int → List Int → List Int → Option R) {p : List Int} {n k : Nat} (hp : okP p = true) (hn : p.length / 64 = n) (hb : n ≤ 30000) (hk : 1 ≤ k) :
    ∀ m : Nat, k + m ≤ n → ∀ fuel, m < fuel → ∀ g, LtE g → f9_6_lp N k1 fuel (n : Int) (k : Int) (((k + m : Nat) : Int) - 1) p (arrN g n) = k1 false (n : Int) (k : Int) ((k : Int) - 1) p (arrN (downF (ddSt (pX p) k) k m g) n) := by
  intro m
  induction m with
  | zero =>
    intro h fuel hf g hg
    obtain ⟨f, rfl⟩ : ∃ f, fuel = f + 1 := ⟨fuel - 1, by omega⟩
    show f9_6_st N (f9_6_lp N _ f) _ _ _ _ _ _ = _
    unfold f9_6_st
    rw [decide_eq_false (show ¬ (((k + 0 : Nat) : Int) - 1 ≥ (k : Int)) by omega), cond_false]
    rfl
  | succ m ih =>
    intro h fuel hf g hg
    obtain ⟨f, rfl⟩ : ∃ f, fuel = f + 1 := ⟨fuel - 1, by omega⟩
    show f9_6_st N (f9_6_lp N _ f) _ _ _ _ _ _ = _
    unfold f9_6_st
    rw [show ((k + (m + 1) : Nat) : Int) - 1 = ((k + m : Nat) : Int) by omega]
    have w1 : IntKind.i64.wrap (((k + m : Nat) : Int) - (k : Int)) = (m : Int) := by
      rw [show ((k + m : Nat) : Int) - (k : Int) = (m : Int) by omega]; exact wi64 (by omega)
    obtain ⟨q, hq⟩ : ∃ q, k + m = q + 1 := ⟨k + m - 1, by omega⟩
    have w2 : IntKind.i64.wrap (((k + m : Nat) : Int) - 1) = (q : Int) := by rw [hq]; exact wSub (by omega)
    have e1 : List.take 32 (List.drop (Int.toNat ((k + m : Nat) : Int) * 64 + (0 + 0)) p) = ptX p (k + m) := rfl
    have e2 : List.take 32 (List.drop (Int.toNat (m : Int) * 64 + (0 + 0)) p) = ptX p m := rfl
    have hz : okB (List.replicate 32 (0 : Int)) = true := by rw [b_zero']; exact okB_sN 0
    have hv0 : vS (List.replicate 32 (0 : Int)) = 0 := by rw [b_zero']; exact vS_sN ell_pos
    rw [w1, w2]
    dsimp only
    rw [decide_eq_true (show ((k + m : Nat) : Int) ≥ (k : Int) by omega), rows64, hn, ge0, ltT (show k + m < n by omega), ge0, ltT (show m < n by omega), e1, e2, okP_x hp (by omega), okP_x hp (by omega), okB_sN, vS_sN (difN_lt _ _),
      arr_rows, ge0, ltT (show q < n by omega), ltT (show k + m < n by omega), toN, toN, arr_el g (show k + m < n by omega), arr_el g (show q < n by omega), okB_sN, okB_sN, okB_sN, hz, okB_sN, vS_sN (hg _), vS_sN (hg _), vS_sN (difN_lt _ _), hv0, vS_sN (invN_lt _)]
    simp only [Bool.and_self, cond_true]
    rw [arr_set g _ (show k + m < n by omega), arr_set g _ (show k + m < n by omega)]
    have hstep : ddSt (pX p) k (k + m) g = upd g (k + m) (mulN (difN (g (k + m)) (g q)) (invN (difN (vS (ptX p (k + m))) (vS (ptX p m))))) := by
      unfold ddSt
      rw [show k + m - 1 = q by omega, show k + m - k = m by omega]; rfl
    have hd : downF (ddSt (pX p) k) k (m + 1) g = downF (ddSt (pX p) k) k m (ddSt (pX p) k (k + m) g) := rfl
    have hq2 : (q : Int) = ((k + m : Nat) : Int) - 1 := by omega
    rw [hd]
    by_cases h0 : difN (vS (ptX p (k + m))) (vS (ptX p m)) = 0
    · rw [decide_eq_true h0, cond_true]
      rw [h0, invN_zero] at hstep
      rw [← hstep, hq2]
      exact ih (by omega) f (by omega) _ (hg.upd (mulN_lt _ _) _)
    · rw [decide_eq_false h0, cond_false, ← hstep, hq2]
      exact ih (by omega) f (by omega) _ (hg.upd (mulN_lt _ _) _)

noncomputable def ddPass (X : Nat → Nat) (n k : Nat) (g : Nat → Nat) : Nat → Nat := downF (ddSt X k) k (n - k) g
theorem ddPass_lt {X : Nat → Nat} {n k : Nat} {g : Nat → Nat} (h : LtE g) : LtE (ddPass X n k g) := downF_inv (fun i g h => h.upd (mulN_lt _ _) _) _ _ _ h
theorem f9_passes {R : Type} {N : Nat} (k1 : Bool → Int → Int → List Int → List Int → Option R) {p : List Int} {n : Nat} (hp : okP p = true) (hn : p.length / 64 = n) (hb : n ≤ 30000) (hN : n < N) (h1n : 1 ≤ n) :
    ∀ j k : Nat, k + j = n → 1 ≤ k → ∀ fuel, j < fuel → ∀ g, LtE g → f9_4_lp N k1 fuel (n : Int) (k : Int) p (arrN g n) = k1 false (n : Int) (n : Int) p (arrN (iterF (ddPass (pX p) n) j k g) n) := by
  intro j
  induction j with
  | zero =>
    intro k h hk fuel hf g hg
    obtain ⟨f, rfl⟩ : ∃ f, fuel = f + 1 := ⟨fuel - 1, by omega⟩
    show f9_4_st N (f9_4_lp N _ f) _ _ _ _ _ = _
    unfold f9_4_st
    rw [ltF (by omega), cond_false, show k = n by omega]
    rfl
  | succ j ih =>
    intro k h hk fuel hf g hg
    obtain ⟨f, rfl⟩ : ∃ f, fuel = f + 1 := ⟨fuel - 1, by omega⟩
    show f9_4_st N (f9_4_lp N _ f) _ _ _ _ _ = _
    unfold f9_4_st
    obtain ⟨q, hq⟩ : ∃ q, n = q + 1 := ⟨n - 1, by omega⟩
    have w2 : IntKind.i64.wrap ((n : Int) - 1) = ((k + (n - k) : Nat) : Int) - 1 := by
      rw [show ((k + (n - k) : Nat) : Int) - 1 = (q : Int) by omega, hq]; exact wSub (by omega)
    rw [ltT (show k < n by omega), cond_true, w2]
    refine (f9_dd _ hp hn hb hk (n - k) (by omega) N (by omega) g hg).trans ?_
    rw [wAdd (by omega)]
    exact ih (k + 1) (by omega) (by omega) f (by omega) _ (ddPass_lt hg)

noncomputable def upSt (X : Nat → Nat) (k i : Nat) (g : Nat → Nat) : Nat → Nat := upd g i (difN (g (i - 1)) (mulN (g i) (X k)))
theorem f9_up {R : Type} {N : Nat} (k1 : Bool → Int → Int → Int → List Int → List Int → List Int → Option R) {p D : List Int} {n k : Nat} (hp : okP p = true) (hn : p.length / 64 = n) (hb : n ≤ 30000) (hk : k < n) :
    ∀ m : Nat, m + 1 ≤ n → ∀ fuel, m < fuel → ∀ g, LtE g → f9_10_lp N k1 fuel (n : Int) (k : Int) (m : Int) p D (arrN g n) = k1 false (n : Int) (k : Int) 0 p D (arrN (downF (upSt (pX p) k) 1 m g) n) := by
  intro m
  induction m with
  | zero =>
    intro h fuel hf g hg
    obtain ⟨f, rfl⟩ : ∃ f, fuel = f + 1 := ⟨fuel - 1, by omega⟩
    show f9_10_st N (f9_10_lp N _ f) _ _ _ _ _ _ _ = _
    unfold f9_10_st
    rw [decide_eq_false (show ¬ (((0 : Nat) : Int) > 0) by omega), cond_false]
    rfl
  | succ m ih =>
    intro h fuel hf g hg
    obtain ⟨f, rfl⟩ : ∃ f, fuel = f + 1 := ⟨fuel - 1, by omega⟩
    show f9_10_st N (f9_10_lp N _ f) _ _ _ _ _ _ _ = _
    unfold f9_10_st
    have e1 : List.take 32 (List.drop (Int.toNat (k : Int) * 64 + (0 + 0)) p) = ptX p k := rfl
    rw [decide_eq_true (show ((m + 1 : Nat) : Int) > 0 by omega), wSub (by omega)]
    dsimp only
    rw [rows64, hn, ge0, ge0, ge0, ltT (show k < n by omega), arr_rows, ltT (show m < n by omega), ltT (show m + 1 < n by omega), toN, toN, e1, arr_el g (show m + 1 < n by omega), arr_el g (show m < n by omega), okP_x hp (by omega), okB_sN, okB_sN, okB_sN, vS_sN (hg _), vS_sN (hg _), vS_sN (mulN_lt _ _), arr_set g _ (show m + 1 < n by omega)]
    simp only [Bool.and_self, cond_true]
    have hstep : upSt (pX p) k (1 + m) g = upd g (m + 1) (difN (g m) (mulN (g (m + 1)) (vS (ptX p k)))) := by
      unfold upSt
      rw [show 1 + m - 1 = m by omega, show 1 + m = m + 1 by omega]; rfl
    have hd : downF (upSt (pX p) k) 1 (m + 1) g = downF (upSt (pX p) k) 1 m (upSt (pX p) k (1 + m) g) := rfl
    rw [hd, hstep]
    exact ih (by omega) f (by omega) _ (hg.upd (difN_lt _ _) _)

noncomputable def outSt (X D : Nat → Nat) (n k : Nat) (g : Nat → Nat) : Nat → Nat :=
  upd (downF (upSt X k) 1 (n - 1) g) 0 (difN (D k) (mulN (downF (upSt X k) 1 (n - 1) g 0) (X k)))
theorem outSt_lt {X D : Nat → Nat} {n k : Nat} {g : Nat → Nat} (h : LtE g) : LtE (outSt X D n k g) := (downF_inv (P := LtE) (fun i g h => h.upd (difN_lt _ _) _) _ _ _ h).upd (difN_lt _ _) _
theorem f9_outs {R : Type} {N : Nat} (k1 : Bool → Int → Int → List Int → List Int → List Int → Option R) {p : List Int} {D : Nat → Nat} {n : Nat} (hp : okP p = true) (hn : p.length / 64 = n) (hb : n ≤ 30000) (hN : n < N) (h1n : 1 ≤ n) (hD : LtE D) :
    ∀ m : Nat, m ≤ n → ∀ fuel, m < fuel → ∀ g, LtE g → f9_8_lp N k1 fuel (n : Int) ((m : Int) - 1) p (arrN D n) (arrN g n) = k1 false (n : Int) (-1) p (arrN D n) (arrN (downF (outSt (pX p) D n) 0 m g) n) := by
  intro m
  induction m with
  | zero =>
    intro h fuel hf g hg
    obtain ⟨f, rfl⟩ : ∃ f, fuel = f + 1 := ⟨fuel - 1, by omega⟩
    show f9_8_st N (f9_8_lp N _ f) _ _ _ _ _ _ = _
    unfold f9_8_st
    rw [decide_eq_false (show ¬ (((0 : Nat) : Int) - 1 ≥ 0) by omega), cond_false]
    rfl
  | succ m ih =>
    intro h fuel hf g hg
    obtain ⟨f, rfl⟩ : ∃ f, fuel = f + 1 := ⟨fuel - 1, by omega⟩
    show f9_8_st N (f9_8_lp N _ f) _ _ _ _ _ _ = _
    unfold f9_8_st
    obtain ⟨q, hq⟩ : ∃ q, n = q + 1 := ⟨n - 1, by omega⟩
    have w2 : IntKind.i64.wrap ((n : Int) - 1) = ((n - 1 : Nat) : Int) := by
      rw [show ((n - 1 : Nat) : Int) = (q : Int) by omega, hq]; exact wSub (by omega)
    have g1lt : LtE (downF (upSt (pX p) m) 1 (n - 1) g) := downF_inv (P := LtE) (fun i g h => h.upd (difN_lt _ _) _) _ _ _ hg
    rw [show ((m + 1 : Nat) : Int) - 1 = (m : Int) by omega, decide_eq_true (show (m : Int) ≥ 0 by omega), cond_true, w2]
    refine (f9_up _ hp hn hb (show m < n by omega) (n - 1) (by omega) N (by omega) g hg).trans ?_
    have e1 : List.take 32 (List.drop (Int.toNat (m : Int) * 64 + (0 + 0)) p) = ptX p m := rfl
    have w3 : IntKind.i64.wrap ((m : Int) - 1) = (m : Int) - 1 := wrapI (by omega) (by omega)
    have e0 : mulE (Int.toNat 0) 32 = 0 * 32 := rfl
    rw [rows64, hn, ge0, ltT (show m < n by omega), arr_rows, arr_rows, ltT (show m < n by omega), show decide ((0 : Nat) ≤ 0) = true from rfl, decide_eq_true (show (0 : Int) < (n : Int) by omega), e1, e0, toN, arr_el _ (show 0 < n by omega), arr_el D (show m < n by omega), okP_x hp (by omega), okB_sN, okB_sN, okB_sN,
      vS_sN (hD _), vS_sN (g1lt _), vS_sN (mulN_lt _ _), arr_set _ _ (show 0 < n by omega), w3]
    simp only [Bool.and_self, cond_true]
    have hstep : outSt (pX p) D n (0 + m) g = upd (downF (upSt (pX p) m) 1 (n - 1) g) 0 (difN (D m) (mulN (downF (upSt (pX p) m) 1 (n - 1) g 0) (vS (ptX p m)))) := by
      unfold outSt
      rw [show 0 + m = m by omega]; rfl
    have hd : downF (outSt (pX p) D n) 0 (m + 1) g = downF (outSt (pX p) D n) 0 m (outSt (pX p) D n (0 + m) g) := rfl
    rw [hd, ← hstep]
    exact ih (by omega) f (by omega) _ (outSt_lt hg)

noncomputable def ysG (Y : Nat → Nat) (n : Nat) : Nat → Nat := iterF (fun i g => upd g i (Y i)) n 0 (fun _ => 0)
noncomputable def ddG (X Y : Nat → Nat) (n : Nat) : Nat → Nat := iterF (ddPass X n) (n - 1) 1 (ysG Y n)
noncomputable def newtG (X Y : Nat → Nat) (n : Nat) : Nat → Nat := downF (outSt X (ddG X Y n) n) 0 n (fun _ => 0)
theorem ysG_lt {Y : Nat → Nat} (h : LtE Y) (n : Nat) : LtE (ysG Y n) := iterF_inv (fun i g hg => hg.upd (h i) _) _ _ _ ltE_zero
theorem ddG_lt {X Y : Nat → Nat} (h : LtE Y) (n : Nat) : LtE (ddG X Y n) := iterF_inv (fun i g hg => ddPass_lt hg) _ _ _ (ysG_lt h n)
theorem newtG_lt (X Y : Nat → Nat) (n : Nat) : LtE (newtG X Y n) := downF_inv (fun i g hg => outSt_lt hg) _ _ _ ltE_zero

noncomputable def badP (p : List Int) : Bool := decide (p.length / 64 = 0) || decide (p.length / 64 > 255)
noncomputable def I9 : (R : Type) → List DV → (List DV → Option R) → Option R := fun _ ds k => match ds with
  | [.lst (.mix l) 64 p] => match cksEq l ck32 with
    | true => bif okP p then (bif badP p then k [.lst (.one .u8) 32 [], .v (.one (.int .i64 8))] else bif dupsP p then k [.lst (.one .u8) 32 [], .v (.one (.int .i64 5))]
        else k [.lst (.one .u8) 32 (arrN (newtG (pX p) (pY p) (p.length / 64)) (p.length / 64)), .v (.one (.int .i64 0))]) else none
    | false => none
  | _ => none
theorem c9 : Contract Try.prog 9 { sig := S9, impl := I9 } := by
  refine Contract.refine fun R ds k r h => ?_
  unfold I9 at h
  split at h
  · rename_i l p
    refine ⟨_, f9_contract (p.length / 64 + 2) GT2_ok, ?_⟩
    split at h
    · rename_i hl
      have hl := cksEq_iff.1 hl
      subst hl
      cases hc : okP p with
      | false => rw [hc] at h; cases h
      | true =>
        rw [hc, cond_true] at h
        have hlen := okP_n hc
        show call (E9 (p.length / 64 + 2)) S9 161 B9 R9 [DV.lst (RK.mix ck32) 64 p] k = some r
        rw [f9_raw_eq]
        unfold f9_raw
        rw [rows64]
        generalize hn : p.length / 64 = n at *
        unfold badP dupsP at h
        rw [hn] at h
        by_cases h0 : n = 0
        · rw [decide_eq_true h0, Bool.true_or, cond_true] at h
          subst h0
          exact h
        · have e0 : ((n : Int) == 0) = false := by simp; omega
          rw [e0, cond_false]
          dsimp only
          rw [decide_eq_false h0, Bool.false_or] at h
          have e1 : decide ((n : Int) > 255) = decide (n > 255) := by rw [Bool.eq_iff_iff]; simp; omega
          rw [cond_false, e1]
          cases h5 : decide (n > 255) with
          | true => rw [h5] at h; exact h
          | false =>
            rw [h5, cond_false] at h
            rw [cond_false]
            have h5 := of_decide_eq_false h5
            refine (f9_seen _ _ hc hn (by omega) n 0 (by omega) (n + 2) (by omega)).trans ?_
            cases hd : dupAll (keyP p) n 0 with
            | true => rw [hd] at h; exact h
            | false =>
              rw [hd, cond_false] at h
              rw [cond_false]
              have e2 : (decide (0 ≤ (n : Int)) && (decide ((n : Int) ≤ (n : Int)) && (decide ((n : Int) ≤ 281474976710656) && decide ((n : Int) * 32 ≤ 281474976710656)))) = true := by
                simp only [Bool.and_eq_true, decide_eq_true_eq]; omega
              rw [rows64, hn, e2, cond_true, toN, arr_zero]
              refine (f9_ys _ hc hn (by omega) n 0 (by omega) (n + 2) (by omega) _ ltE_zero).trans ?_
              refine (f9_passes _ hc hn (by omega) (by omega) (by omega) (n - 1) 1 (by omega) (by omega) (n + 2) (by omega) _ (ysG_lt (pY_lt p) n)).trans ?_
              rw [e2, cond_true, toN, arr_zero]
              have w2 : IntKind.i64.wrap ((n : Int) - 1) = (n : Int) - 1 := wrapI (by omega) (by omega)
              rw [w2]
              refine (f9_outs _ hc hn (by omega) (by omega) (by omega) (ddG_lt (pY_lt p) n) n (Nat.le_refl n) (n + 2) (by omega) _ ltE_zero).trans ?_
              exact h
    · cases h
  · cases h
end Go.Proofs.Ytogcijgklnfjjaa

namespace Go.Proofs.Ytogcijgklnfjjaa
open Go Go.Eng Go.ChangeShapes Go.WideShapes Go.RowKit
set_option maxRecDepth 100000
theorem own0 : ownKnob Try.prog.godebug = none := by kernel_rfl
theorem laidOut : laidOutB Try.prog = true := by kernel_rfl
theorem wf_u8 {y : Int} (h : (Lit.int .u8 y).wf = true) : 0 ≤ y ∧ y < 256 := by
  have := bounds_u8 h; omega
theorem bulk_one {H : Type} (d : DataW H) : 1 ≤ Rows.uptoBulk d := by
  cases d with
  | lit l => cases l <;> simp [Rows.uptoBulk]
  | nil => simp [Rows.uptoBulk]
  | ptr d => simp [Rows.uptoBulk]
  | slice elems spare => simp [Rows.uptoBulk]
  | agg parts => simp [Rows.uptoBulk]
  | iface t d => simp [Rows.uptoBulk]
  | map entries => simp [Rows.uptoBulk]
  | held h => simp [Rows.uptoBulk]
theorem bulk_length {H : Type} (l : List (DataW H)) : l.length ≤ Rows.uptoBulkAll l := by
  induction l with
  | nil => simp [Rows.uptoBulkAll]
  | cons x r ih => have := bulk_one x; simp only [Rows.uptoBulkAll, List.length_cons]; omega
theorem bulk_slice {H : Type} {d : DataW H} {len : Nat} (h : (d = .nil ∧ len = 0) ∨ ∃ elems spare, d = .slice elems spare ∧ elems.length = len) : len ≤ Rows.uptoBulk d := by
  rcases h with ⟨rfl, rfl⟩ | ⟨elems, spare, rfl, rfl⟩
  · exact Nat.zero_le _
  · have := bulk_length elems
    simp only [Rows.uptoBulk]; omega
theorem bulk_bound {H : Type} {l : List (DataW H)} (hk : Rows.uptoSmall H l = true) : Rows.uptoBulkAll l ≤ 1048576 := of_decide_eq_true hk
theorem elSc (H : Type) (enc : TypeId × Value → H) : IntEl H enc Try.prog 30 .u8 32 := intEl_array Try.underlying30 (by kernel_rfl) (by omega) (intEl_int Try.underlying5 (by kernel_rfl))
theorem elInt (H : Type) (enc : TypeId × Value → H) : IntEl H enc Try.prog 3 .i64 1 := intEl_int Try.underlying3 (by kernel_rfl)
theorem ck43_at : ∀ j, j < 33 → ckAt ck43 j = if j < 1 then .int .i64 else .int .u8 := fun j hj => ckEq_iff.1 ((by decide : ∀ j, j < 33 → ckEq (ckAt ck43 j) (if j < 1 then .int .i64 else .int .u8) = true) j hj)
theorem elSh (H : Type) (enc : TypeId × Value → H) : MixEl H enc Try.prog 43 ck43 33 := mixEl_struct2 Try.underlying43 (by kernel_rfl) (elInt H enc) (elSc H enc) rfl rfl rfl (by decide) ck43_at
theorem okB_row {x : List Int} (hl : x.length = 32) (hw : ∀ y ∈ x, (Lit.int .u8 y).wf = true) : okB x = true := by
  unfold okB
  rw [decide_eq_true hl, Bool.true_and, List.all_eq_true]
  intro b hb
  have := wf_u8 (hw b hb)
  rw [Bool.and_eq_true]
  exact ⟨decide_eq_true this.1, decide_eq_true this.2⟩
end Go.Proofs.Ytogcijgklnfjjaa

namespace Go.Proofs.Ytogcijgklnfjjaa
open Go Go.Eng
set_option maxRecDepth 100000
set_option linter.unusedVariables false

def f51_0_sh : Shp := { n := 19, lo := 1, slots := [(3, .one (.fix (At.own 1000003))), (6, .one (.fix (At.own 0))), (7, .one (.int IntKind.i64)), (8, .one (.int IntKind.i64))], items := [(1000003, .row (RK.one IntKind.u8) 32), (0, .view (RK.one IntKind.i64) 1)] }
def f51_0_ex1 : Shp := { n := 19, lo := 1, slots := [(9, .one (.bool)), (3, .one (.fix (At.own 1000003))), (6, .one (.fix (At.own 0))), (7, .one (.int IntKind.i64)), (8, .one (.int IntKind.i64))], items := [(1000003, .row (RK.one IntKind.u8) 32), (0, .view (RK.one IntKind.i64) 1)] }
noncomputable def f51_0_st {R : Type} (N : Nat) (self : Int → Int → List Int → List Int → Option R) (k1 : Bool → Int → Int → List Int → List Int → Option R) (x1 : Int) (x2 : Int) (x3 : List Int) (x4 : List Int) : Option R :=
 bif Decidable.decide (x2 < x1) then
 bif Decidable.decide (0 ≤ x2) && Decidable.decide (x2 < nI (rowLen 1 x4)) then
 let v0 : List Int := splice (zerosOf (1 * 32)) (Off.at (0 * 32)) (sN (plN (x4.getD (mulE x2.toNat 1) 0)));
 bif ((2 * (rowLen 32 x3 + rowLen 32 v0) + 192) * 32).ble big48 && (rowLen 32 x3 + rowLen 32 v0).ble big48 then
 let v1 : Int := IntKind.i64.wrap (x2 + 1);
 let v2 : List Int := x3 ++ v0;
 self x1 v1 v2 x4
 else Option.none
 else Option.none
else k1 (Decidable.decide (x2 < x1)) x1 x2 x3 x4
noncomputable def f51_0_lp {R : Type} (N : Nat) (k1 : Bool → Int → Int → List Int → List Int → Option R) : Nat → Int → Int → List Int → List Int → Option R
 | 0, _, _, _, _ => none
 | n + 1, x1, x2, x3, x4 => f51_0_st N (f51_0_lp N k1 n) k1 x1 x2 x3 x4
noncomputable def f51_0_F (N : Nat) : (R : Type) → List Leaf → (X → AS → Option R) → Option R := fun _ ls K => match ls with
 | [.i x1, .i x2, .l x3, .l x4] => f51_0_lp N (fun y1 y2 y3 y4 y5 => K (X.normal) (fill f51_0_ex1 [.b y1, .i y2, .i y3, .l y4, .l y5])) N x1 x2 x3 x4
 | _ => none
noncomputable def f51_raw {R : Type} (N : Nat) (xs : List Int) (k : List DV → Option R) : Option R :=
 f51_0_lp N (fun w0_1 w0_2 w0_3 w0_4 w0_5 => k [DV.lst (RK.one IntKind.u8) 32 w0_4]) N (nI (rowLen 1 xs)) 0 [] xs


noncomputable def E51 (N : Nat) : Env := { Θ := Th, Γ := [(40, { sig := S40, impl := I40 })], K := K51, ν := N51, fuel := 0, lp := [(0, mkL N51_0 f51_0_sh (f51_0_F N))] }

theorem f51_0_st_eq {R : Type} (N : Nat) (K : X → AS → Option R) (n : Nat) (x1 : Int) (x2 : Int) (x3 : List Int) (x4 : List Int) : roundsOf (E51 N) N51_0 0 B51_0 K (n + 1) (fill f51_0_sh [.i x1, .i x2, .l x3, .l x4]) = f51_0_st N (fun x1 x2 x3 x4 => roundsOf (E51 N) N51_0 0 B51_0 K n (fill f51_0_sh [.i x1, .i x2, .l x3, .l x4])) (fun y1 y2 y3 y4 y5 => K (X.normal) (fill f51_0_ex1 [.b y1, .i y2, .i y3, .l y4, .l y5])) x1 x2 x3 x4 := by kernel_rfl
theorem f51_0_lp_eq {R : Type} (N : Nat) (K : X → AS → Option R) : ∀ (n : Nat) (x1 : Int) (x2 : Int) (x3 : List Int) (x4 : List Int), roundsOf (E51 N) N51_0 0 B51_0 K n (fill f51_0_sh [.i x1, .i x2, .l x3, .l x4]) = f51_0_lp N (fun y1 y2 y3 y4 y5 => K (X.normal) (fill f51_0_ex1 [.b y1, .i y2, .i y3, .l y4, .l y5])) n x1 x2 x3 x4
  | 0, _, _, _, _ => rfl
  | n + 1, x1, x2, x3, x4 => by
    rw [f51_0_st_eq, f51_0_lp, show (fun x1 x2 x3 x4 => roundsOf (E51 N) N51_0 0 B51_0 K n (fill f51_0_sh [.i x1, .i x2, .l x3, .l x4])) = f51_0_lp N (fun y1 y2 y3 y4 y5 => K (X.normal) (fill f51_0_ex1 [.b y1, .i y2, .i y3, .l y4, .l y5])) n from by funext x1 x2 x3 x4; exact f51_0_lp_eq N K n x1 x2 x3 x4]
theorem f51_0_ok (N : Nat) (hlp : LoopsOk Try.prog (E51 N).lp B51_0) (hΓ : CtxOk Try.prog (E51 N).Γ) : LoopOk Try.prog (mkL N51_0 f51_0_sh (f51_0_F N)) 0 B51_0 := by
  refine loopOk_of (E := E51 N) thOk hΓ mixed hlp ?_
  intro R ls K r h
  unfold f51_0_F at h
  split at h
  · exact ⟨N, by rw [f51_0_lp_eq]; exact h⟩
  · cases h

theorem lok51_0 (N : Nat) (hΓ : CtxOk Try.prog [(40, { sig := S40, impl := I40 })]) : LoopOk Try.prog (mkL N51_0 f51_0_sh (f51_0_F N)) 0 B51_0 := f51_0_ok N (loopsOk_of (l := []) (by kernel_rfl) trivial) hΓ
theorem f51_contract (N : Nat) (hΓ : CtxOk Try.prog [(40, { sig := S40, impl := I40 })]) : Contract Try.prog 51 { sig := S51, impl := fun _ ds k => call (E51 N) S51 19 B51 R51 ds k } :=
  call_contract (E := E51 N) thOk hΓ mixed ok51.look ok51.body ok51.n ok51.rv ok51.name rfl (by decide) (loopsOk_of (l := [(0, B51_0)]) (by kernel_rfl) (allOk_cons (L := mkL N51_0 f51_0_sh (f51_0_F N)) rfl (lok51_0 N hΓ) trivial))
theorem f51_raw_eq {R : Type} (N : Nat) (xs : List Int) (k : List DV → Option R) : call (E51 N) S51 19 B51 R51 [.lst (.one .i64) 1 xs] k = f51_raw N xs k := by kernel_rfl
end Go.Proofs.Ytogcijgklnfjjaa

namespace Go.Proofs.Ytogcijgklnfjjaa
open Go Go.Eng
set_option maxRecDepth 100000
set_option linter.unusedVariables false

def f52_0_sh : Shp := { n := 19, lo := 2, slots := [(0, .one (.fix (At.own 0))), (1, .one (.int IntKind.i64)), (7, .one (.int IntKind.i64)), (8, .one (.int IntKind.i64))], items := [(0, .view (RK.one IntKind.i64) 1)] }
def f52_0_ex1 : Shp := { n := 19, lo := 2, slots := [(4, .one (.int IntKind.i64)), (16, .one (.bool)), (5, .one (.int IntKind.i64)), (9, .one (.bool)), (0, .one (.fix (At.own 0))), (1, .one (.int IntKind.i64)), (7, .one (.int IntKind.i64)), (8, .one (.int IntKind.i64))], items := [(0, .view (RK.one IntKind.i64) 1)] }
def f52_0_ex2 : Shp := { n := 19, lo := 2, slots := [(9, .one (.bool)), (0, .one (.fix (At.own 0))), (1, .one (.int IntKind.i64)), (7, .one (.int IntKind.i64)), (8, .one (.int IntKind.i64))], items := [(0, .view (RK.one IntKind.i64) 1)] }
noncomputable def f52_0_st {R : Type} (N : Nat) (self : Int → Int → Int → List Int → Option R) (k1 : Int → Bool → Int → Bool → Int → Int → Int → List Int → Option R) (k2 : Bool → Int → Int → Int → List Int → Option R) (x1 : Int) (x2 : Int) (x3 : Int) (x4 : List Int) : Option R :=
 bif Decidable.decide (x3 < x2) then
 bif Decidable.decide (0 ≤ x3) && Decidable.decide (x3 < nI (rowLen 1 x4)) then
 bif x1 == x4.getD (mulE x3.toNat 1) 0 then k1 x3 (x1 == x4.getD (mulE x3.toNat 1) 0) x3 (Decidable.decide (x3 < x2)) x1 x2 x3 x4
 else
 let v0 : Int := IntKind.i64.wrap (x3 + 1);
 self x1 x2 v0 x4
 else Option.none
else k2 (Decidable.decide (x3 < x2)) x1 x2 x3 x4
noncomputable def f52_0_lp {R : Type} (N : Nat) (k1 : Int → Bool → Int → Bool → Int → Int → Int → List Int → Option R) (k2 : Bool → Int → Int → Int → List Int → Option R) : Nat → Int → Int → Int → List Int → Option R
 | 0, _, _, _, _ => none
 | n + 1, x1, x2, x3, x4 => f52_0_st N (f52_0_lp N k1 k2 n) k1 k2 x1 x2 x3 x4
noncomputable def f52_0_F (N : Nat) : (R : Type) → List Leaf → (X → AS → Option R) → Option R := fun _ ls K => match ls with
 | [.i x1, .i x2, .i x3, .l x4] => f52_0_lp N (fun y1 y2 y3 y4 y5 y6 y7 y8 => K (X.ret) (fill f52_0_ex1 [.i y1, .b y2, .i y3, .b y4, .i y5, .i y6, .i y7, .l y8])) (fun y1 y2 y3 y4 y5 => K (X.normal) (fill f52_0_ex2 [.b y1, .i y2, .i y3, .i y4, .l y5])) N x1 x2 x3 x4
 | _ => none
noncomputable def f52_raw {R : Type} (N : Nat) (xs : List Int) (x : Int) (k : List DV → Option R) : Option R :=
 f52_0_lp N (fun w0_1 w0_2 w0_3 w0_4 w0_5 w0_6 w0_7 w0_8 => k [DV.v (SV.one (At.int IntKind.i64 w0_1))]) (fun w1_1 w1_2 w1_3 w1_4 w1_5 => k [DV.v (SV.one (At.int IntKind.i64 (-1)))]) N x (nI (rowLen 1 xs)) 0 xs


noncomputable def E52 (N : Nat) : Env := { Θ := Th, Γ := GT2, K := K52, ν := N52, fuel := 0, lp := [(0, mkL N52_0 f52_0_sh (f52_0_F N))] }

theorem f52_0_st_eq {R : Type} (N : Nat) (K : X → AS → Option R) (n : Nat) (x1 : Int) (x2 : Int) (x3 : Int) (x4 : List Int) : roundsOf (E52 N) N52_0 0 B52_0 K (n + 1) (fill f52_0_sh [.i x1, .i x2, .i x3, .l x4]) = f52_0_st N (fun x1 x2 x3 x4 => roundsOf (E52 N) N52_0 0 B52_0 K n (fill f52_0_sh [.i x1, .i x2, .i x3, .l x4])) (fun y1 y2 y3 y4 y5 y6 y7 y8 => K (X.ret) (fill f52_0_ex1 [.i y1, .b y2, .i y3, .b y4, .i y5, .i y6, .i y7, .l y8])) (fun y1 y2 y3 y4 y5 => K (X.normal) (fill f52_0_ex2 [.b y1, .i y2, .i y3, .i y4, .l y5])) x1 x2 x3 x4 := by kernel_rfl
theorem f52_0_lp_eq {R : Type} (N : Nat) (K : X → AS → Option R) : ∀ (n : Nat) (x1 : Int) (x2 : Int) (x3 : Int) (x4 : List Int), roundsOf (E52 N) N52_0 0 B52_0 K n (fill f52_0_sh [.i x1, .i x2, .i x3, .l x4]) = f52_0_lp N (fun y1 y2 y3 y4 y5 y6 y7 y8 => K (X.ret) (fill f52_0_ex1 [.i y1, .b y2, .i y3, .b y4, .i y5, .i y6, .i y7, .l y8])) (fun y1 y2 y3 y4 y5 => K (X.normal) (fill f52_0_ex2 [.b y1, .i y2, .i y3, .i y4, .l y5])) n x1 x2 x3 x4
  | 0, _, _, _, _ => rfl
  | n + 1, x1, x2, x3, x4 => by
    rw [f52_0_st_eq, f52_0_lp, show (fun x1 x2 x3 x4 => roundsOf (E52 N) N52_0 0 B52_0 K n (fill f52_0_sh [.i x1, .i x2, .i x3, .l x4])) = f52_0_lp N (fun y1 y2 y3 y4 y5 y6 y7 y8 => K (X.ret) (fill f52_0_ex1 [.i y1, .b y2, .i y3, .b y4, .i y5, .i y6, .i y7, .l y8])) (fun y1 y2 y3 y4 y5 => K (X.normal) (fill f52_0_ex2 [.b y1, .i y2, .i y3, .i y4, .l y5])) n from by funext x1 x2 x3 x4; exact f52_0_lp_eq N K n x1 x2 x3 x4]
theorem f52_0_ok (N : Nat) (hlp : LoopsOk Try.prog (E52 N).lp B52_0) (hΓ : CtxOk Try.prog (E52 N).Γ) : LoopOk Try.prog (mkL N52_0 f52_0_sh (f52_0_F N)) 0 B52_0 := by
  refine loopOk_of (E := E52 N) thOk hΓ mixed hlp ?_
  intro R ls K r h
  unfold f52_0_F at h
  split at h
  · exact ⟨N, by rw [f52_0_lp_eq]; exact h⟩
  · cases h

theorem lok52_0 (N : Nat) (hΓ : CtxOk Try.prog GT2) : LoopOk Try.prog (mkL N52_0 f52_0_sh (f52_0_F N)) 0 B52_0 := f52_0_ok N (loopsOk_of (l := []) (by kernel_rfl) trivial) hΓ
theorem f52_contract (N : Nat) (hΓ : CtxOk Try.prog GT2) : Contract Try.prog 52 { sig := S52, impl := fun _ ds k => call (E52 N) S52 19 B52 R52 ds k } :=
  call_contract (E := E52 N) thOk hΓ mixed ok52.look ok52.body ok52.n ok52.rv ok52.name rfl (by decide) (loopsOk_of (l := [(0, B52_0)]) (by kernel_rfl) (allOk_cons (L := mkL N52_0 f52_0_sh (f52_0_F N)) rfl (lok52_0 N hΓ) trivial))
theorem f52_raw_eq {R : Type} (N : Nat) (xs : List Int) (x : Int) (k : List DV → Option R) : call (E52 N) S52 19 B52 R52 [.lst (.one .i64) 1 xs, .v (.one (.int .i64 x))] k = f52_raw N xs x k := by kernel_rfl
end Go.Proofs.Ytogcijgklnfjjaa

namespace Go.Proofs.Ytogcijgklnfjjaa
open Go Go.Eng
set_option maxRecDepth 100000
set_option linter.unusedVariables false

noncomputable def f70_raw {R : Type} (N : Nat) (t : Int) (k : List DV → Option R) : Option R :=
 bif Decidable.decide (t < 1) then k [DV.v (SV.one (At.int IntKind.i64 7))]
else
 let v0 : Bool := bif Bool.false then Bool.true else Decidable.decide (t > 255);
 bif v0 then k [DV.v (SV.one (At.int IntKind.i64 7))] else k [DV.v (SV.one (At.int IntKind.i64 0))]


noncomputable def E70 (N : Nat) : Env := { Θ := Th, Γ := GT2, K := K70, ν := N70, fuel := 0, lp := [] }


theorem f70_contract (N : Nat) (hΓ : CtxOk Try.prog GT2) : Contract Try.prog 70 { sig := S70, impl := fun _ ds k => call (E70 N) S70 9 B70 R70 ds k } :=
  call_contract (E := E70 N) thOk hΓ mixed ok70.look ok70.body ok70.n ok70.rv ok70.name rfl (by decide) (loopsOk_of (l := []) (by kernel_rfl) trivial)
theorem f70_raw_eq {R : Type} (N : Nat) (t : Int) (k : List DV → Option R) : call (E70 N) S70 9 B70 R70 [.v (.one (.int .i64 t))] k = f70_raw N t k := by kernel_rfl
end Go.Proofs.Ytogcijgklnfjjaa

namespace Go.Proofs.Ytogcijgklnfjjaa
open Go Go.Eng
set_option maxRecDepth 100000
set_option linter.unusedVariables false

def f49_0_sh : Shp := { n := 31, lo := 1, slots := [(4, .one (.fix (At.own 1000004))), (5, .one (.fix (At.own 1000005))), (8, .one (.fix (At.own 0))), (9, .one (.int IntKind.i64)), (10, .one (.int IntKind.i64))], items := [(1000004, .row (RK.one IntKind.i64) 1), (1000005, .row (RK.mix ck32) 64), (0, .view (RK.mix ck43) 33)] }
def f49_0_ex1 : Shp := { n := 31, lo := 1, slots := [(11, .one (.bool)), (4, .one (.fix (At.own 1000004))), (5, .one (.fix (At.own 1000005))), (8, .one (.fix (At.own 0))), (9, .one (.int IntKind.i64)), (10, .one (.int IntKind.i64))], items := [(1000004, .row (RK.one IntKind.i64) 1), (1000005, .row (RK.mix ck32) 64), (0, .view (RK.mix ck43) 33)] }
noncomputable def f49_0_st {R : Type} (N : Nat) (self : Int → Int → List Int → List Int → List Int → Option R) (k1 : Bool → Int → Int → List Int → List Int → List Int → Option R) (x1 : Int) (x2 : Int) (x3 : List Int) (x4 : List Int) (x5 : List Int) : Option R :=
 bif Decidable.decide (x2 < x1) then
 bif Decidable.decide (0 ≤ x2) && Decidable.decide (x2 < nI (rowLen 33 x5)) then
 let v0 : List Int := (zerosOf (1 * 1)).set 0 (x5.getD (x2.toNat * 33 + 0) 0);
 bif ((2 * (rowLen 1 x3 + rowLen 1 v0) + 192) * 8).ble big48 && (rowLen 1 x3 + rowLen 1 v0).ble big48 then
 let v1 : List Int := List.take 32 (List.drop (x2.toNat * 33 + (0 + 1)) x5) ++ [];
 let v2 : List Int := sN (plN (x5.getD (x2.toNat * 33 + 0) 0)) ++ v1;
 let v3 : List Int := v2 ++ [];
 bif ((2 * (rowLen 64 x4 + rowLen 64 v3) + 192) * 64).ble big48 && (rowLen 64 x4 + rowLen 64 v3).ble big48 then
 let v4 : Int := IntKind.i64.wrap (x2 + 1);
 let v5 : List Int := x3 ++ v0;
 let v6 : List Int := x4 ++ v3;
 self x1 v4 v5 v6 x5
 else Option.none
 else Option.none
 else Option.none
else k1 (Decidable.decide (x2 < x1)) x1 x2 x3 x4 x5
noncomputable def f49_0_lp {R : Type} (N : Nat) (k1 : Bool → Int → Int → List Int → List Int → List Int → Option R) : Nat → Int → Int → List Int → List Int → List Int → Option R
 | 0, _, _, _, _, _ => none
 | n + 1, x1, x2, x3, x4, x5 => f49_0_st N (f49_0_lp N k1 n) k1 x1 x2 x3 x4 x5
noncomputable def f49_0_F (N : Nat) : (R : Type) → List Leaf → (X → AS → Option R) → Option R := fun _ ls K => match ls with
 | [.i x1, .i x2, .l x3, .l x4, .l x5] => f49_0_lp N (fun y1 y2 y3 y4 y5 y6 => K (X.normal) (fill f49_0_ex1 [.b y1, .i y2, .i y3, .l y4, .l y5, .l y6])) N x1 x2 x3 x4 x5
 | _ => none
noncomputable def f49_raw {R : Type} (N : Nat) (sh : List Int) (k : List DV → Option R) : Option R :=
 f49_0_lp N (fun w0_1 w0_2 w0_3 w0_4 w0_5 w0_6 => k [DV.lst (RK.one IntKind.i64) 1 w0_4, DV.lst (RK.mix ck32) 64 w0_5]) N (nI (rowLen 33 sh)) 0 [] [] sh


noncomputable def E49 (N : Nat) : Env := { Θ := Th, Γ := GT2, K := K49, ν := N49, fuel := 0, lp := [(0, mkL N49_0 f49_0_sh (f49_0_F N))] }

theorem f49_0_st_eq {R : Type} (N : Nat) (K : X → AS → Option R) (n : Nat) (x1 : Int) (x2 : Int) (x3 : List Int) (x4 : List Int) (x5 : List Int) : roundsOf (E49 N) N49_0 0 B49_0 K (n + 1) (fill f49_0_sh [.i x1, .i x2, .l x3, .l x4, .l x5]) = f49_0_st N (fun x1 x2 x3 x4 x5 => roundsOf (E49 N) N49_0 0 B49_0 K n (fill f49_0_sh [.i x1, .i x2, .l x3, .l x4, .l x5])) (fun y1 y2 y3 y4 y5 y6 => K (X.normal) (fill f49_0_ex1 [.b y1, .i y2, .i y3, .l y4, .l y5, .l y6])) x1 x2 x3 x4 x5 := by kernel_rfl
theorem f49_0_lp_eq {R : Type} (N : Nat) (K : X → AS → Option R) : ∀ (n : Nat) (x1 : Int) (x2 : Int) (x3 : List Int) (x4 : List Int) (x5 : List Int), roundsOf (E49 N) N49_0 0 B49_0 K n (fill f49_0_sh [.i x1, .i x2, .l x3, .l x4, .l x5]) = f49_0_lp N (fun y1 y2 y3 y4 y5 y6 => K (X.normal) (fill f49_0_ex1 [.b y1, .i y2, .i y3, .l y4, .l y5, .l y6])) n x1 x2 x3 x4 x5
  | 0, _, _, _, _, _ => rfl
  | n + 1, x1, x2, x3, x4, x5 => by
    rw [f49_0_st_eq, f49_0_lp, show (fun x1 x2 x3 x4 x5 => roundsOf (E49 N) N49_0 0 B49_0 K n (fill f49_0_sh [.i x1, .i x2, .l x3, .l x4, .l x5])) = f49_0_lp N (fun y1 y2 y3 y4 y5 y6 => K (X.normal) (fill f49_0_ex1 [.b y1, .i y2, .i y3, .l y4, .l y5, .l y6])) n from by funext x1 x2 x3 x4 x5; exact f49_0_lp_eq N K n x1 x2 x3 x4 x5]
theorem f49_0_ok (N : Nat) (hlp : LoopsOk Try.prog (E49 N).lp B49_0) (hΓ : CtxOk Try.prog (E49 N).Γ) : LoopOk Try.prog (mkL N49_0 f49_0_sh (f49_0_F N)) 0 B49_0 := by
  refine loopOk_of (E := E49 N) thOk hΓ mixed hlp ?_
  intro R ls K r h
  unfold f49_0_F at h
  split at h
  · exact ⟨N, by rw [f49_0_lp_eq]; exact h⟩
  · cases h

theorem lok49_0 (N : Nat) (hΓ : CtxOk Try.prog GT2) : LoopOk Try.prog (mkL N49_0 f49_0_sh (f49_0_F N)) 0 B49_0 := f49_0_ok N (loopsOk_of (l := []) (by kernel_rfl) trivial) hΓ
theorem f49_contract (N : Nat) (hΓ : CtxOk Try.prog GT2) : Contract Try.prog 49 { sig := S49, impl := fun _ ds k => call (E49 N) S49 31 B49 R49 ds k } :=
  call_contract (E := E49 N) thOk hΓ mixed ok49.look ok49.body ok49.n ok49.rv ok49.name rfl (by decide) (loopsOk_of (l := [(0, B49_0)]) (by kernel_rfl) (allOk_cons (L := mkL N49_0 f49_0_sh (f49_0_F N)) rfl (lok49_0 N hΓ) trivial))
theorem f49_raw_eq {R : Type} (N : Nat) (sh : List Int) (k : List DV → Option R) : call (E49 N) S49 31 B49 R49 [.lst (.mix ck43) 33 sh] k = f49_raw N sh k := by kernel_rfl
end Go.Proofs.Ytogcijgklnfjjaa

namespace Go.Proofs.Ytogcijgklnfjjaa
open Go Go.Eng
set_option maxRecDepth 100000
set_option linter.unusedVariables false

def f50_2_sh : Shp := { n := 95, lo := 2, slots := [(0, .one (.fix (At.own 0))), (3, .one (.fix (At.ptr 3 0 Off.z 32))), (5, .one (.fix (At.own 12))), (6, .one (.fix (At.own 15))), (7, .one (.int IntKind.i64)), (17, .one (.int IntKind.i64)), (18, .one (.int IntKind.i64)), (30, .one (.int IntKind.i64)), (31, .one (.int IntKind.i64))], items := [(0, .view (RK.one IntKind.u8) 32), (3, .obj [.ints IntKind.u8 32]), (12, .row (RK.one IntKind.u8) 32), (15, .row (RK.one IntKind.u8) 32)] }
def f50_2_ex1 : Shp := { n := 95, lo := 2, slots := [(32, .one (.bool)), (0, .one (.fix (At.own 0))), (3, .one (.fix (At.ptr 3 0 Off.z 32))), (5, .one (.fix (At.own 12))), (6, .one (.fix (At.own 15))), (7, .one (.int IntKind.i64)), (17, .one (.int IntKind.i64)), (18, .one (.int IntKind.i64)), (30, .one (.int IntKind.i64)), (31, .one (.int IntKind.i64))], items := [(0, .view (RK.one IntKind.u8) 32), (3, .obj [.ints IntKind.u8 32]), (12, .row (RK.one IntKind.u8) 32), (15, .row (RK.one IntKind.u8) 32)] }
noncomputable def f50_2_st {R : Type} (N : Nat) (self : Int → Int → Int → Int → Int → List Int → List Int → List Int → List Int → Option R) (k1 : Bool → Int → Int → Int → Int → Int → List Int → List Int → List Int → List Int → Option R) (x1 : Int) (x2 : Int) (x3 : Int) (x4 : Int) (x5 : Int) (x6 : List Int) (x7 : List Int) (x8 : List Int) (x9 : List Int) : Option R :=
 bif Decidable.decide (x5 < x4) then
 bif x5 != x1 then
 bif Decidable.decide (0 ≤ x1) && Decidable.decide (x1 < nI (rowLen 32 x8)) then
 bif Decidable.decide (0 ≤ x5) && Decidable.decide (x5 < nI (rowLen 32 x6)) then
 bif okB x7 && okB (List.take 32 (List.drop (mulE x5.toNat 32) x6)) then
 bif okB (List.take 32 (List.drop (mulE x1.toNat 32) x8)) && okB (sN (difN (vS x7) (vS (List.take 32 (List.drop (mulE x5.toNat 32) x6))))) then
 bif Decidable.decide (0 ≤ x1) && Decidable.decide (x1 < nI (rowLen 32 x8)) then
 bif Decidable.decide (0 ≤ x1) && Decidable.decide (x1 < nI (rowLen 32 x9)) then
 bif Decidable.decide (0 ≤ x1) && Decidable.decide (x1 < nI (rowLen 32 x6)) then
 bif Decidable.decide (0 ≤ x5) && Decidable.decide (x5 < nI (rowLen 32 x6)) then
 bif okB (List.take 32 (List.drop (mulE x1.toNat 32) x6)) && okB (List.take 32 (List.drop (mulE x5.toNat 32) x6)) then
 bif okB (List.take 32 (List.drop (mulE x1.toNat 32) x9)) && okB (sN (difN (vS (List.take 32 (List.drop (mulE x1.toNat 32) x6))) (vS (List.take 32 (List.drop (mulE x5.toNat 32) x6))))) then
 bif Decidable.decide (0 ≤ x1) && Decidable.decide (x1 < nI (rowLen 32 x9)) then
 let v0 : Int := IntKind.i64.wrap (x5 + 1);
 let v1 : List Int := splice x8 (Off.at (mulE x1.toNat 32)) (sN (mulN (vS (List.take 32 (List.drop (mulE x1.toNat 32) x8))) (vS (sN (difN (vS x7) (vS (List.take 32 (List.drop (mulE x5.toNat 32) x6))))))));
 let v2 : List Int := splice x9 (Off.at (mulE x1.toNat 32)) (sN (mulN (vS (List.take 32 (List.drop (mulE x1.toNat 32) x9))) (vS (sN (difN (vS (List.take 32 (List.drop (mulE x1.toNat 32) x6))) (vS (List.take 32 (List.drop (mulE x5.toNat 32) x6))))))));
 self x1 x2 x3 x4 v0 x6 x7 v1 v2
 else Option.none
 else Option.none
 else Option.none
 else Option.none
 else Option.none
 else Option.none
 else Option.none
 else Option.none
 else Option.none
 else Option.none
 else Option.none
 else
 let v3 : Int := IntKind.i64.wrap (x5 + 1);
 self x1 x2 x3 x4 v3 x6 x7 x8 x9
else k1 (Decidable.decide (x5 < x4)) x1 x2 x3 x4 x5 x6 x7 x8 x9
noncomputable def f50_2_lp {R : Type} (N : Nat) (k1 : Bool → Int → Int → Int → Int → Int → List Int → List Int → List Int → List Int → Option R) : Nat → Int → Int → Int → Int → Int → List Int → List Int → List Int → List Int → Option R
 | 0, _, _, _, _, _, _, _, _, _ => none
 | n + 1, x1, x2, x3, x4, x5, x6, x7, x8, x9 => f50_2_st N (f50_2_lp N k1 n) k1 x1 x2 x3 x4 x5 x6 x7 x8 x9
noncomputable def f50_2_F (N : Nat) : (R : Type) → List Leaf → (X → AS → Option R) → Option R := fun _ ls K => match ls with
 | [.i x1, .i x2, .i x3, .i x4, .i x5, .l x6, .l x7, .l x8, .l x9] => f50_2_lp N (fun y1 y2 y3 y4 y5 y6 y7 y8 y9 y10 => K (X.normal) (fill f50_2_ex1 [.b y1, .i y2, .i y3, .i y4, .i y5, .i y6, .l y7, .l y8, .l y9, .l y10])) N x1 x2 x3 x4 x5 x6 x7 x8 x9
 | _ => none
def f50_0_sh : Shp := { n := 95, lo := 2, slots := [(0, .one (.fix (At.own 0))), (3, .one (.fix (At.ptr 3 0 Off.z 32))), (5, .one (.fix (At.own 12))), (6, .one (.fix (At.own 15))), (17, .one (.int IntKind.i64)), (18, .one (.int IntKind.i64))], items := [(0, .view (RK.one IntKind.u8) 32), (3, .obj [.ints IntKind.u8 32]), (12, .row (RK.one IntKind.u8) 32), (15, .row (RK.one IntKind.u8) 32)] }
def f50_0_ex1 : Shp := { n := 95, lo := 2, slots := [(19, .one (.bool)), (0, .one (.fix (At.own 0))), (3, .one (.fix (At.ptr 3 0 Off.z 32))), (5, .one (.fix (At.own 12))), (6, .one (.fix (At.own 15))), (17, .one (.int IntKind.i64)), (18, .one (.int IntKind.i64))], items := [(0, .view (RK.one IntKind.u8) 32), (3, .obj [.ints IntKind.u8 32]), (12, .row (RK.one IntKind.u8) 32), (15, .row (RK.one IntKind.u8) 32)] }
noncomputable def f50_0_st {R : Type} (N : Nat) (self : Int → Int → List Int → List Int → List Int → List Int → Option R) (k1 : Bool → Int → Int → List Int → List Int → List Int → List Int → Option R) (x1 : Int) (x2 : Int) (x3 : List Int) (x4 : List Int) (x5 : List Int) (x6 : List Int) : Option R :=
 bif Decidable.decide (x2 < x1) then
 bif Decidable.decide (0 ≤ x2) && Decidable.decide (x2 < nI (rowLen 32 x5)) then
 bif Decidable.decide (0 ≤ x2) && Decidable.decide (x2 < nI (rowLen 32 x6)) then
 let v0 : List Int := (List.replicate 32 0).set 0 1;
 let v1 : List Int := splice x5 (Off.at (mulE x2.toNat 32)) v0;
 let v2 : List Int := splice x6 (Off.at (mulE x2.toNat 32)) v0;
 f50_2_lp N
 (fun w3_1 w3_2 w3_3 w3_4 w3_5 w3_6 w3_7 w3_8 w3_9 w3_10 =>
 let v4 : Int := IntKind.i64.wrap (w3_4 + 1);
 self w3_3 v4 w3_7 w3_8 w3_9 w3_10)
 N x2 x1 x2 (nI (rowLen 32 x3)) 0 x3 x4 v1 v2
 else Option.none
 else Option.none
else k1 (Decidable.decide (x2 < x1)) x1 x2 x3 x4 x5 x6
noncomputable def f50_0_lp {R : Type} (N : Nat) (k1 : Bool → Int → Int → List Int → List Int → List Int → List Int → Option R) : Nat → Int → Int → List Int → List Int → List Int → List Int → Option R
 | 0, _, _, _, _, _, _ => none
 | n + 1, x1, x2, x3, x4, x5, x6 => f50_0_st N (f50_0_lp N k1 n) k1 x1 x2 x3 x4 x5 x6
noncomputable def f50_0_F (N : Nat) : (R : Type) → List Leaf → (X → AS → Option R) → Option R := fun _ ls K => match ls with
 | [.i x1, .i x2, .l x3, .l x4, .l x5, .l x6] => f50_0_lp N (fun y1 y2 y3 y4 y5 y6 y7 => K (X.normal) (fill f50_0_ex1 [.b y1, .i y2, .i y3, .l y4, .l y5, .l y6, .l y7])) N x1 x2 x3 x4 x5 x6
 | _ => none
def f50_4_sh : Shp := { n := 95, lo := 2, slots := [(5, .one (.fix (At.own 12))), (6, .one (.fix (At.own 72))), (77, .one (.int IntKind.i64)), (78, .one (.int IntKind.i64))], items := [(12, .row (RK.one IntKind.u8) 32), (15, .row (RK.one IntKind.u8) 32), (72, .row (RK.one IntKind.u8) 32)] }
def f50_4_ex1 : Shp := { n := 95, lo := 2, slots := [(79, .one (.bool)), (5, .one (.fix (At.own 12))), (6, .one (.fix (At.own 72))), (77, .one (.int IntKind.i64)), (78, .one (.int IntKind.i64))], items := [(12, .row (RK.one IntKind.u8) 32), (15, .row (RK.one IntKind.u8) 32), (72, .row (RK.one IntKind.u8) 32)] }
noncomputable def f50_4_st {R : Type} (N : Nat) (self : Int → Int → List Int → List Int → List Int → Option R) (k1 : Bool → Int → Int → List Int → List Int → List Int → Option R) (x1 : Int) (x2 : Int) (x3 : List Int) (x4 : List Int) (x5 : List Int) : Option R :=
 bif Decidable.decide (x2 < x1) then
 bif Decidable.decide (0 ≤ x2) && Decidable.decide (x2 < nI (rowLen 32 x3)) then
 bif Decidable.decide (0 ≤ x2) && Decidable.decide (x2 < nI (rowLen 32 x5)) then
 bif okB (List.take 32 (List.drop (mulE x2.toNat 32) x3)) && okB (List.take 32 (List.drop (mulE x2.toNat 32) x5)) then
 bif Decidable.decide (0 ≤ x2) && Decidable.decide (x2 < nI (rowLen 32 x3)) then
 let v0 : Int := IntKind.i64.wrap (x2 + 1);
 let v1 : List Int := splice x3 (Off.at (mulE x2.toNat 32)) (sN (mulN (vS (List.take 32 (List.drop (mulE x2.toNat 32) x3))) (vS (List.take 32 (List.drop (mulE x2.toNat 32) x5)))));
 self x1 v0 v1 x4 x5
 else Option.none
 else Option.none
 else Option.none
 else Option.none
else k1 (Decidable.decide (x2 < x1)) x1 x2 x3 x4 x5
noncomputable def f50_4_lp {R : Type} (N : Nat) (k1 : Bool → Int → Int → List Int → List Int → List Int → Option R) : Nat → Int → Int → List Int → List Int → List Int → Option R
 | 0, _, _, _, _, _ => none
 | n + 1, x1, x2, x3, x4, x5 => f50_4_st N (f50_4_lp N k1 n) k1 x1 x2 x3 x4 x5
noncomputable def f50_4_F (N : Nat) : (R : Type) → List Leaf → (X → AS → Option R) → Option R := fun _ ls K => match ls with
 | [.i x1, .i x2, .l x3, .l x4, .l x5] => f50_4_lp N (fun y1 y2 y3 y4 y5 y6 => K (X.normal) (fill f50_4_ex1 [.b y1, .i y2, .i y3, .l y4, .l y5, .l y6])) N x1 x2 x3 x4 x5
 | _ => none
noncomputable def f50_raw {R : Type} (N : Nat) (xs : List Int) (x : List Int) (k : List DV → Option R) : Option R :=
 bif Decidable.decide (0 ≤ nI (rowLen 32 xs)) && (Decidable.decide (nI (rowLen 32 xs) ≤ nI (rowLen 32 xs)) && (Decidable.decide (nI (rowLen 32 xs) ≤ 281474976710656) && Decidable.decide (nI (rowLen 32 xs) * 32 ≤ 281474976710656))) then bif Decidable.decide (0 ≤ nI (rowLen 32 xs)) && (Decidable.decide (nI (rowLen 32 xs) ≤ nI (rowLen 32 xs)) && (Decidable.decide (nI (rowLen 32 xs) ≤ 281474976710656) && Decidable.decide (nI (rowLen 32 xs) * 32 ≤ 281474976710656))) then f50_0_lp N (fun w0_1 w0_2 w0_3 w0_4 w0_5 w0_6 w0_7 => bif okF w0_7 then bif hasZ w0_7 then f50_4_lp N (fun w1_1 w1_2 w1_3 w1_4 w1_5 w1_6 => k [DV.lst (RK.one IntKind.u8) 32 w1_4]) N (nI (rowLen 32 w0_6)) 0 w0_6 w0_7 [] else f50_4_lp N (fun w2_1 w2_2 w2_3 w2_4 w2_5 w2_6 => k [DV.lst (RK.one IntKind.u8) 32 w2_4]) N (nI (rowLen 32 w0_6)) 0 w0_6 w0_7 (invS w0_7) else Option.none) N (nI (rowLen 32 xs)) 0 xs x (zerosOf (mulE (nI (rowLen 32 xs)).toNat 32)) (zerosOf (mulE (nI (rowLen 32 xs)).toNat 32)) else Option.none else Option.none


noncomputable def E50 (N : Nat) : Env := { Θ := Th, Γ := GZ, K := K50, ν := N50, fuel := 0, lp := [(0, mkL N50_0 f50_0_sh (f50_0_F N)), (2, mkL N50_2 f50_2_sh (f50_2_F N)), (4, mkL N50_4 f50_4_sh (f50_4_F N))] }

theorem f50_2_st_eq {R : Type} (N : Nat) (K : X → AS → Option R) (n : Nat) (x1 : Int) (x2 : Int) (x3 : Int) (x4 : Int) (x5 : Int) (x6 : List Int) (x7 : List Int) (x8 : List Int) (x9 : List Int) : roundsOf (E50 N) N50_2 2 B50_2 K (n + 1) (fill f50_2_sh [.i x1, .i x2, .i x3, .i x4, .i x5, .l x6, .l x7, .l x8, .l x9]) = f50_2_st N (fun x1 x2 x3 x4 x5 x6 x7 x8 x9 => roundsOf (E50 N) N50_2 2 B50_2 K n (fill f50_2_sh [.i x1, .i x2, .i x3, .i x4, .i x5, .l x6, .l x7, .l x8, .l x9])) (fun y1 y2 y3 y4 y5 y6 y7 y8 y9 y10 => K (X.normal) (fill f50_2_ex1 [.b y1, .i y2, .i y3, .i y4, .i y5, .i y6, .l y7, .l y8, .l y9, .l y10])) x1 x2 x3 x4 x5 x6 x7 x8 x9 := by kernel_rfl
theorem f50_2_lp_eq {R : Type} (N : Nat) (K : X → AS → Option R) : ∀ (n : Nat) (x1 : Int) (x2 : Int) (x3 : Int) (x4 : Int) (x5 : Int) (x6 : List Int) (x7 : List Int) (x8 : List Int) (x9 : List Int), roundsOf (E50 N) N50_2 2 B50_2 K n (fill f50_2_sh [.i x1, .i x2, .i x3, .i x4, .i x5, .l x6, .l x7, .l x8, .l x9]) = f50_2_lp N (fun y1 y2 y3 y4 y5 y6 y7 y8 y9 y10 => K (X.normal) (fill f50_2_ex1 [.b y1, .i y2, .i y3, .i y4, .i y5, .i y6, .l y7, .l y8, .l y9, .l y10])) n x1 x2 x3 x4 x5 x6 x7 x8 x9
  | 0, _, _, _, _, _, _, _, _, _ => rfl
  | n + 1, x1, x2, x3, x4, x5, x6, x7, x8, x9 => by
    rw [f50_2_st_eq, f50_2_lp, show (fun x1 x2 x3 x4 x5 x6 x7 x8 x9 => roundsOf (E50 N) N50_2 2 B50_2 K n (fill f50_2_sh [.i x1, .i x2, .i x3, .i x4, .i x5, .l x6, .l x7, .l x8, .l x9])) = f50_2_lp N (fun y1 y2 y3 y4 y5 y6 y7 y8 y9 y10 => K (X.normal) (fill f50_2_ex1 [.b y1, .i y2, .i y3, .i y4, .i y5, .i y6, .l y7, .l y8, .l y9, .l y10])) n from by funext x1 x2 x3 x4 x5 x6 x7 x8 x9; exact f50_2_lp_eq N K n x1 x2 x3 x4 x5 x6 x7 x8 x9]
theorem f50_2_ok (N : Nat) (hlp : LoopsOk Try.prog (E50 N).lp B50_2) (hΓ : CtxOk Try.prog (E50 N).Γ) : LoopOk Try.prog (mkL N50_2 f50_2_sh (f50_2_F N)) 2 B50_2 := by
  refine loopOk_of (E := E50 N) thOk hΓ mixed hlp ?_
  intro R ls K r h
  unfold f50_2_F at h
  split at h
  · exact ⟨N, by rw [f50_2_lp_eq]; exact h⟩
  · cases h
theorem f50_0_st_eq {R : Type} (N : Nat) (K : X → AS → Option R) (n : Nat) (x1 : Int) (x2 : Int) (x3 : List Int) (x4 : List Int) (x5 : List Int) (x6 : List Int) : roundsOf (E50 N) N50_0 0 B50_0 K (n + 1) (fill f50_0_sh [.i x1, .i x2, .l x3, .l x4, .l x5, .l x6]) = f50_0_st N (fun x1 x2 x3 x4 x5 x6 => roundsOf (E50 N) N50_0 0 B50_0 K n (fill f50_0_sh [.i x1, .i x2, .l x3, .l x4, .l x5, .l x6])) (fun y1 y2 y3 y4 y5 y6 y7 => K (X.normal) (fill f50_0_ex1 [.b y1, .i y2, .i y3, .l y4, .l y5, .l y6, .l y7])) x1 x2 x3 x4 x5 x6 := by kernel_rfl
theorem f50_0_lp_eq {R : Type} (N : Nat) (K : X → AS → Option R) : ∀ (n : Nat) (x1 : Int) (x2 : Int) (x3 : List Int) (x4 : List Int) (x5 : List Int) (x6 : List Int), roundsOf (E50 N) N50_0 0 B50_0 K n (fill f50_0_sh [.i x1, .i x2, .l x3, .l x4, .l x5, .l x6]) = f50_0_lp N (fun y1 y2 y3 y4 y5 y6 y7 => K (X.normal) (fill f50_0_ex1 [.b y1, .i y2, .i y3, .l y4, .l y5, .l y6, .l y7])) n x1 x2 x3 x4 x5 x6
  | 0, _, _, _, _, _, _ => rfl
  | n + 1, x1, x2, x3, x4, x5, x6 => by
    rw [f50_0_st_eq, f50_0_lp, show (fun x1 x2 x3 x4 x5 x6 => roundsOf (E50 N) N50_0 0 B50_0 K n (fill f50_0_sh [.i x1, .i x2, .l x3, .l x4, .l x5, .l x6])) = f50_0_lp N (fun y1 y2 y3 y4 y5 y6 y7 => K (X.normal) (fill f50_0_ex1 [.b y1, .i y2, .i y3, .l y4, .l y5, .l y6, .l y7])) n from by funext x1 x2 x3 x4 x5 x6; exact f50_0_lp_eq N K n x1 x2 x3 x4 x5 x6]
theorem f50_0_ok (N : Nat) (hlp : LoopsOk Try.prog (E50 N).lp B50_0) (hΓ : CtxOk Try.prog (E50 N).Γ) : LoopOk Try.prog (mkL N50_0 f50_0_sh (f50_0_F N)) 0 B50_0 := by
  refine loopOk_of (E := E50 N) thOk hΓ mixed hlp ?_
  intro R ls K r h
  unfold f50_0_F at h
  split at h
  · exact ⟨N, by rw [f50_0_lp_eq]; exact h⟩
  · cases h
theorem f50_4_st_eq {R : Type} (N : Nat) (K : X → AS → Option R) (n : Nat) (x1 : Int) (x2 : Int) (x3 : List Int) (x4 : List Int) (x5 : List Int) : roundsOf (E50 N) N50_4 4 B50_4 K (n + 1) (fill f50_4_sh [.i x1, .i x2, .l x3, .l x4, .l x5]) = f50_4_st N (fun x1 x2 x3 x4 x5 => roundsOf (E50 N) N50_4 4 B50_4 K n (fill f50_4_sh [.i x1, .i x2, .l x3, .l x4, .l x5])) (fun y1 y2 y3 y4 y5 y6 => K (X.normal) (fill f50_4_ex1 [.b y1, .i y2, .i y3, .l y4, .l y5, .l y6])) x1 x2 x3 x4 x5 := by kernel_rfl
theorem f50_4_lp_eq {R : Type} (N : Nat) (K : X → AS → Option R) : ∀ (n : Nat) (x1 : Int) (x2 : Int) (x3 : List Int) (x4 : List Int) (x5 : List Int), roundsOf (E50 N) N50_4 4 B50_4 K n (fill f50_4_sh [.i x1, .i x2, .l x3, .l x4, .l x5]) = f50_4_lp N (fun y1 y2 y3 y4 y5 y6 => K (X.normal) (fill f50_4_ex1 [.b y1, .i y2, .i y3, .l y4, .l y5, .l y6])) n x1 x2 x3 x4 x5
  | 0, _, _, _, _, _ => rfl
  | n + 1, x1, x2, x3, x4, x5 => by
    rw [f50_4_st_eq, f50_4_lp, show (fun x1 x2 x3 x4 x5 => roundsOf (E50 N) N50_4 4 B50_4 K n (fill f50_4_sh [.i x1, .i x2, .l x3, .l x4, .l x5])) = f50_4_lp N (fun y1 y2 y3 y4 y5 y6 => K (X.normal) (fill f50_4_ex1 [.b y1, .i y2, .i y3, .l y4, .l y5, .l y6])) n from by funext x1 x2 x3 x4 x5; exact f50_4_lp_eq N K n x1 x2 x3 x4 x5]
theorem f50_4_ok (N : Nat) (hlp : LoopsOk Try.prog (E50 N).lp B50_4) (hΓ : CtxOk Try.prog (E50 N).Γ) : LoopOk Try.prog (mkL N50_4 f50_4_sh (f50_4_F N)) 4 B50_4 := by
  refine loopOk_of (E := E50 N) thOk hΓ mixed hlp ?_
  intro R ls K r h
  unfold f50_4_F at h
  split at h
  · exact ⟨N, by rw [f50_4_lp_eq]; exact h⟩
  · cases h

theorem lok50_4 (N : Nat) (hΓ : CtxOk Try.prog GZ) : LoopOk Try.prog (mkL N50_4 f50_4_sh (f50_4_F N)) 4 B50_4 := f50_4_ok N (loopsOk_of (l := []) (by kernel_rfl) trivial) hΓ
theorem lok50_2 (N : Nat) (hΓ : CtxOk Try.prog GZ) : LoopOk Try.prog (mkL N50_2 f50_2_sh (f50_2_F N)) 2 B50_2 := f50_2_ok N (loopsOk_of (l := []) (by kernel_rfl) trivial) hΓ
theorem lok50_0 (N : Nat) (hΓ : CtxOk Try.prog GZ) : LoopOk Try.prog (mkL N50_0 f50_0_sh (f50_0_F N)) 0 B50_0 := f50_0_ok N (loopsOk_of (l := [(2, B50_2)]) (by kernel_rfl) (allOk_cons (L := mkL N50_2 f50_2_sh (f50_2_F N)) rfl (lok50_2 N hΓ) trivial)) hΓ
theorem f50_contract (N : Nat) (hΓ : CtxOk Try.prog GZ) : Contract Try.prog 50 { sig := S50, impl := fun _ ds k => call (E50 N) S50 95 B50 R50 ds k } :=
  call_contract (E := E50 N) thOk hΓ mixed ok50.look ok50.body ok50.n ok50.rv ok50.name rfl (by decide) (loopsOk_of (l := [(0, B50_0), (2, B50_2), (4, B50_4)]) (by kernel_rfl) (allOk_cons (L := mkL N50_0 f50_0_sh (f50_0_F N)) rfl (lok50_0 N hΓ) (allOk_cons (L := mkL N50_2 f50_2_sh (f50_2_F N)) rfl (lok50_2 N hΓ) (allOk_cons (L := mkL N50_4 f50_4_sh (f50_4_F N)) rfl (lok50_4 N hΓ) trivial))))
theorem f50_raw_eq {R : Type} (N : Nat) (xs : List Int) (x : List Int) (k : List DV → Option R) : call (E50 N) S50 95 B50 R50 [.lst (.one .u8) 32 xs, .v (.one (.ints .u8 32 x))] k = f50_raw N xs x k := by kernel_rfl
end Go.Proofs.Ytogcijgklnfjjaa

namespace Go.Proofs.Ytogcijgklnfjjaa
open Go Go.Eng
set_option maxRecDepth 100000
set_option linter.unusedVariables false

end Go.Proofs.Ytogcijgklnfjjaa

namespace Go.Proofs.Ytogcijgklnfjjaa
open Go Go.Eng
set_option maxRecDepth 100000
set_option linter.unusedVariables false

theorem basPB_congr {X X' : Nat → Nat} {n i : Nat} (h : ∀ j, j < n → X j = X' j) (hi : i < n) : basPB X i n = basPB X' i n :=
  iterF_congr n 0 _ fun k s _ h2 => by unfold coefIn; rw [h k (by omega), h i hi]
theorem coefG_congr {X X' Y Y' : Nat → Nat} {n : Nat} (h : ∀ j, j < n → X j = X' j) (h' : ∀ j, j < n → Y j = Y' j) : coefG X Y n = coefG X' Y' n :=
  iterF_congr n 0 _ fun k s _ h2 => by unfold coefSt; rw [basPB_congr h (show k < n by omega), h' k (by omega)]

theorem one_row {x : List Int} (h : x.length = 32) : splice (zerosOf (1 * 32)) (Off.at (0 * 32)) x = x := by
  show List.take 0 _ ++ (x ++ List.drop (0 * 32 + x.length) (zerosOf (1 * 32))) = x
  rw [List.take_zero, List.nil_append, List.drop_of_length_le (by rw [zeros_len, h]; omega), List.append_nil]
end Go.Proofs.Ytogcijgklnfjjaa

namespace Go.Proofs.Ytogcijgklnfjjaa
open Go Go.Eng
set_option maxRecDepth 100000
set_option linter.unusedVariables false

noncomputable def pxN (X : Nat → Nat) (i v : Nat) : Nat → Nat → Nat → Nat
  | 0, _, a => a
  | j + 1, k, a => pxN X i v j (k + 1) (if k = i then a else mulN a (difN v (X k)))
theorem pxN_lt {X : Nat → Nat} {i v : Nat} : ∀ (j k a : Nat), a < ell → pxN X i v j k a < ell
  | 0, _, _, h => h
  | j + 1, k, a, h => pxN_lt j (k + 1) _ (by split; exact h; exact mulN_lt _ _)
theorem difN_ne {a b : Nat} (ha : a < ell) (hb : b < ell) (h : a ≠ b) : difN a b ≠ 0 := by
  unfold difN
  rw [addN_def, negN_def, Nat.add_mod_mod]
  intro h0
  by_cases hb0 : b = 0
  · subst hb0
    rw [Nat.sub_zero, Nat.add_mod_right, Nat.mod_eq_of_lt ha] at h0; exact h h0
  · by_cases hlt : a < b
    · rw [Nat.mod_eq_of_lt (by omega)] at h0; omega
    · rw [show a + (ell - b) = (a - b) + ell by omega, Nat.add_mod_right, Nat.mod_eq_of_lt (by omega)] at h0; omega
theorem pxN_ne {X : Nat → Nat} (hX : LtE X) {i n : Nat} (hi : i < n) (hd : ∀ a b, a < b → b < n → X a ≠ X b) : ∀ (j k a : Nat), k + j ≤ n → a < ell → a ≠ 0 → pxN X i (X i) j k a ≠ 0
  | 0, _, _, _, _, h => h
  | j + 1, k, a, hk, ha, h => by
    refine pxN_ne hX hi hd j (k + 1) _ (by omega) ?_ ?_
    · split; exact ha; exact mulN_lt _ _
    · split
      · exact h
      · rename_i e
        refine mul_ne ha (difN_lt _ _) h (difN_ne (hX i) (hX k) ?_)
        rcases Nat.lt_or_gt_of_ne e with h1 | h1
        · exact (hd k i h1 hi).symm
        · exact hd i k h1 (by omega)
theorem pxN_congr {X X' : Nat → Nat} {i v n : Nat} (h : ∀ j, j < n → X j = X' j) : ∀ (j k a : Nat), k + j ≤ n → pxN X i v j k a = pxN X' i v j k a
  | 0, _, _, _ => rfl
  | j + 1, k, a, hk => by
    unfold pxN
    rw [h k (by omega), pxN_congr h j (k + 1) _ (by omega)]
noncomputable def basG (X : Nat → Nat) (v n i : Nat) : Nat := mulN (pxN X i v n 0 1) (invN (pxN X i (X i) n 0 1))
theorem basG_lt (X : Nat → Nat) (v n : Nat) : LtE (basG X v n) := fun _ => mulN_lt _ _
theorem basG_congr {X X' : Nat → Nat} {v n i : Nat} (h : ∀ j, j < n → X j = X' j) (hi : i < n) : basG X v n i = basG X' v n i := by
  unfold basG
  rw [h i hi, pxN_congr h n 0 1 (by omega), pxN_congr h n 0 1 (by omega)]

theorem upd_upd (f : Nat → Nat) (i v w : Nat) : upd (upd f i v) i w = upd f i w := by
  funext j; unfold upd; split <;> rfl
theorem upd_self (f : Nat → Nat) (i v : Nat) : upd f i v i = v := by simp [upd]

theorem f50_in {R : Type} {N : Nat} (k1 : Bool → Int → Int → Int → Int → Int → List Int → List Int → List Int → List Int → Option R) {xs x : List Int} {n i : Nat} (hx : okF xs = true) (ho : okB x = true) (hn : xs.length / 32 = n) (hi : i < n) (hb : n ≤ 30000) {T B : Nat → Nat} :
    ∀ j k : Nat, k + j = n → ∀ fuel, j < fuel → ∀ a b, a < ell → b < ell →
      f50_2_lp N k1 fuel (i : Int) (n : Int) (i : Int) (n : Int) (k : Int) xs x (arrN (upd T i a) n) (arrN (upd B i b) n) =
        k1 false (i : Int) (n : Int) (i : Int) (n : Int) (n : Int) xs x (arrN (upd T i (pxN (numF xs) i (vS x) j k a)) n) (arrN (upd B i (pxN (numF xs) i (numF xs i) j k b)) n) := by
  intro j
  induction j with
  | zero =>
    intro k h fuel hf a b ha hb'
    obtain ⟨f, rfl⟩ : ∃ f, fuel = f + 1 := ⟨fuel - 1, by omega⟩
    show f50_2_st N (f50_2_lp N _ f) _ _ _ _ _ _ _ _ _ _ = _
    unfold f50_2_st
    rw [ltF (by omega), cond_false, show k = n by omega]
    rfl
  | succ j ih =>
    intro k h fuel hf a b ha hb'
    obtain ⟨f, rfl⟩ : ∃ f, fuel = f + 1 := ⟨fuel - 1, by omega⟩
    show f50_2_st N (f50_2_lp N _ f) _ _ _ _ _ _ _ _ _ _ = _
    unfold f50_2_st
    have e1 : List.take 32 (List.drop (k * 32) xs) = elF xs k := rfl
    have e2 : List.take 32 (List.drop (i * 32) xs) = elF xs i := rfl
    rw [ltT (show k < n by omega), cond_true, bne_nat, wAdd (by omega)]
    by_cases hk : k = i
    · rw [decide_eq_true hk, Bool.not_true, cond_false]
      have e3 : ∀ v c, pxN (numF xs) i v (j + 1) k c = pxN (numF xs) i v j (k + 1) c := fun v c => by
        show pxN (numF xs) i v j (k + 1) (if k = i then c else _) = _
        rw [if_pos hk]
      rw [e3, e3]
      exact ih (k + 1) (by omega) f (by omega) a b ha hb'
    · rw [decide_eq_false hk, Bool.not_false, cond_true]
      have e3 : ∀ v c, pxN (numF xs) i v (j + 1) k c = pxN (numF xs) i v j (k + 1) (mulN c (difN v (numF xs k))) := fun v c => by
        show pxN (numF xs) i v j (k + 1) (if k = i then c else _) = _
        rw [if_neg hk]
      dsimp only
      rw [arr_rows, arr_rows, rows32 hx, hn, ge0, ge0, ltT (show i < n by omega), ltT (show k < n by omega), toN, toN, e1, e2, okF_el hx (by omega), okF_el hx (by omega), ho, arr_el _ (show i < n by omega), arr_el _ (show i < n by omega), upd_self, upd_self, okB_sN, okB_sN, okB_sN, okB_sN, vS_sN ha, vS_sN hb', vS_sN (difN_lt _ _), vS_sN (difN_lt _ _),
        arr_set _ _ (show i < n by omega), arr_set _ _ (show i < n by omega), upd_upd, upd_upd]
      simp only [Bool.and_self, cond_true]
      rw [e3, e3]
      exact ih (k + 1) (by omega) f (by omega) _ _ (mulN_lt _ _) (mulN_lt _ _)
theorem one_sN : (List.replicate 32 (0 : Int)).set 0 1 = sN 1 := by rw [sN_def]; decide
theorem f50_out {R : Type} {N : Nat} (k1 : Bool → Int → Int → List Int → List Int → List Int → List Int → Option R) {xs x : List Int} {n : Nat} (hx : okF xs = true) (ho : okB x = true) (hn : xs.length / 32 = n) (hb : n ≤ 30000) (hN : n < N) :
    ∀ j i : Nat, i + j = n → ∀ fuel, j < fuel → ∀ T B, 
      f50_0_lp N k1 fuel (n : Int) (i : Int) xs x (arrN T n) (arrN B n) =
        k1 false (n : Int) (n : Int) xs x (arrN (iterF (fun i T => upd T i (pxN (numF xs) i (vS x) n 0 1)) j i T) n) (arrN (iterF (fun i B => upd B i (pxN (numF xs) i (numF xs i) n 0 1)) j i B) n) := by
  intro j
  induction j with
  | zero =>
    intro i h fuel hf T B
    obtain ⟨f, rfl⟩ : ∃ f, fuel = f + 1 := ⟨fuel - 1, by omega⟩
    show f50_0_st N (f50_0_lp N _ f) _ _ _ _ _ _ _ = _
    unfold f50_0_st
    rw [ltF (by omega), cond_false, show i = n by omega]
    rfl
  | succ j ih =>
    intro i h fuel hf T B
    obtain ⟨f, rfl⟩ : ∃ f, fuel = f + 1 := ⟨fuel - 1, by omega⟩
    show f50_0_st N (f50_0_lp N _ f) _ _ _ _ _ _ _ = _
    unfold f50_0_st
    dsimp only
    rw [ltT (show i < n by omega), arr_rows, arr_rows, rows32 hx, hn, ge0, ltT (show i < n by omega), toN, one_sN, arr_set _ _ (show i < n by omega), arr_set _ _ (show i < n by omega)]
    simp only [Bool.and_self, cond_true]
    refine (f50_in (N := N) _ hx ho hn (show i < n by omega) hb n 0 (by omega) N (by omega) 1 1 one_lt_ell one_lt_ell).trans ?_
    rw [wAdd (by omega)]
    exact ih (i + 1) (by omega) f (by omega) _ _
theorem f50_mul {R : Type} {N : Nat} (k1 : Bool → Int → Int → List Int → List Int → List Int → Option R) {x : List Int} {n : Nat} {I : Nat → Nat} (hI : LtE I) (hb : n ≤ 30000) :
    ∀ j i : Nat, i + j = n → ∀ fuel, j < fuel → ∀ T, LtE T → f50_4_lp N k1 fuel (n : Int) (i : Int) (arrN T n) x (arrN I n) =
      k1 false (n : Int) (n : Int) (arrN (iterF (fun i T => upd T i (mulN (T i) (I i))) j i T) n) x (arrN I n) := by
  intro j
  induction j with
  | zero =>
    intro i h fuel hf T hT
    obtain ⟨f, rfl⟩ : ∃ f, fuel = f + 1 := ⟨fuel - 1, by omega⟩
    show f50_4_st N (f50_4_lp N _ f) _ _ _ _ _ _ = _
    unfold f50_4_st
    rw [ltF (by omega), cond_false, show i = n by omega]
    rfl
  | succ j ih =>
    intro i h fuel hf T hT
    obtain ⟨f, rfl⟩ : ∃ f, fuel = f + 1 := ⟨fuel - 1, by omega⟩
    show f50_4_st N (f50_4_lp N _ f) _ _ _ _ _ _ = _
    unfold f50_4_st
    dsimp only
    rw [ltT (show i < n by omega), arr_rows, arr_rows, ge0, ltT (show i < n by omega), toN, arr_el _ (show i < n by omega), arr_el _ (show i < n by omega), okB_sN, okB_sN, vS_sN (hT _), vS_sN (hI _), arr_set _ _ (show i < n by omega), wAdd (by omega)]
    simp only [Bool.and_self, cond_true]
    exact ih (i + 1) (by omega) f (by omega) _ (hT.upd (mulN_lt _ _) _)
theorem iter_set {φ : Nat → Nat} : ∀ (m i : Nat) (g : Nat → Nat) (j : Nat), iterF (fun i g => upd g i (φ i)) m i g j = if i ≤ j ∧ j < i + m then φ j else g j
  | 0, i, g, j => by rw [if_neg (by omega)]; rfl
  | m + 1, i, g, j => by
    show iterF (fun i g => upd g i (φ i)) m (i + 1) (upd g i (φ i)) j = _
    rw [iter_set m]
    by_cases h1 : j = i
    · subst h1; rw [if_neg (by omega), if_pos (by omega)]; simp [upd]
    · by_cases h2 : i + 1 ≤ j ∧ j < i + 1 + m
      · rw [if_pos h2, if_pos (by omega)]
      · rw [if_neg h2, if_neg (by omega)]; simp [upd, h1]
theorem iter_mul (I : Nat → Nat) : ∀ (m i : Nat) (g : Nat → Nat) (j : Nat), iterF (fun i T => upd T i (mulN (T i) (I i))) m i g j = if i ≤ j ∧ j < i + m then mulN (g j) (I j) else g j
  | 0, i, g, j => by rw [if_neg (by omega)]; rfl
  | m + 1, i, g, j => by
    show iterF (fun i T => upd T i (mulN (T i) (I i))) m (i + 1) (upd g i (mulN (g i) (I i))) j = _
    rw [iter_mul I m]
    by_cases h1 : j = i
    · subst h1; rw [if_neg (by omega), if_pos (by omega)]; simp [upd]
    · have e : upd g i (mulN (g i) (I i)) j = g j := by simp [upd, h1]
      rw [e]
      by_cases h2 : i + 1 ≤ j ∧ j < i + 1 + m
      · rw [if_pos h2, if_pos (by omega)]
      · rw [if_neg h2, if_neg (by omega)]

noncomputable def sameX (xs : List Int) : Bool := dupAll (fun i => sN (numF xs i)) (xs.length / 32) 0
theorem same_ne {xs : List Int} (h : sameX xs = false) : ∀ i j, i < j → j < xs.length / 32 → numF xs i ≠ numF xs j := fun i j h1 h2 e => by
  have : sameX xs = true := dupAll_iff.2 ⟨i, j, h1, by omega, by omega, by rw [e]⟩
  rw [h] at this; cases this
theorem fz_of {x : List Int} : ∀ {j i : Nat}, (∀ k, i ≤ k → k < i + j → vS (elF x k) ≠ 0) → fz x j i = none
  | 0, _, _ => rfl
  | j + 1, i, h => by
    unfold fz
    rw [if_neg (h i (by omega) (by omega))]
    exact fz_of fun k h1 h2 => h k (by omega) (by omega)
theorem invS_arr {f : Nat → Nat} (hf : LtE f) (n : Nat) : invS (arrN f n) = arrN (fun i => invN (f i)) n := by
  unfold invS
  rw [arr_div]
  have : ∀ m, m ≤ n → headG (fun i => sN (invN (vS (elF (arrN f n) i)))) m = headG (fun i => sN (invN (f i))) m := by
    intro m
    induction m with
    | zero => intro _; rfl
    | succ m ih =>
      intro hm
      show headG _ m ++ sN (invN (vS (elF (arrN f n) m))) = headG _ m ++ sN (invN (f m))
      rw [ih (by omega), arr_elF f (by omega), vS_sN (hf m)]
  exact this n (Nat.le_refl _)
noncomputable def I50 : (R : Type) → List DV → (List DV → Option R) → Option R := fun _ ds k => match ds with
  | [.lst (.one .u8) 32 xs, .v (.one (.ints .u8 32 x))] => bif okF xs && (okB x && (Nat.ble (xs.length / 32) 30000 && !(sameX xs))) then k [.lst (.one .u8) 32 (arrN (basG (numF xs) (vS x) (xs.length / 32)) (xs.length / 32))] else none
  | _ => none
theorem c50 : Contract Try.prog 50 { sig := S50, impl := I50 } := by
  refine Contract.refine fun R ds k r h => ?_
  unfold I50 at h
  split at h
  · rename_i xs x
    refine ⟨_, f50_contract (xs.length / 32 + 1) GZ_ok, ?_⟩
    cases hc : okF xs && (okB x && (Nat.ble (xs.length / 32) 30000 && !(sameX xs))) with
    | false => rw [hc] at h; cases h
    | true =>
      rw [hc, cond_true] at h
      simp only [Bool.and_eq_true, Bool.not_eq_true'] at hc
      obtain ⟨h1, h2, h3, h4⟩ := hc
      have h3 := Nat.le_of_ble_eq_true h3
      have hne := same_ne h4
      rw [f50_raw_eq]
      unfold f50_raw
      rw [rows32 h1]
      generalize hn : xs.length / 32 = n at *
      have e1 : (decide (0 ≤ (n : Int)) && (decide ((n : Int) ≤ (n : Int)) && (decide ((n : Int) ≤ 281474976710656) && decide ((n : Int) * 32 ≤ 281474976710656)))) = true := by
        simp only [Bool.and_eq_true, decide_eq_true_eq]; omega
      rw [e1, cond_true, cond_true, toN, arr_zero]
      refine (f50_out _ h1 h2 hn h3 (by omega) n 0 (by omega) (n + 1) (by omega) _ _).trans ?_
      have eT : arrN (iterF (fun i T => upd T i (pxN (numF xs) i (vS x) n 0 1)) n 0 (fun _ => 0)) n = arrN (fun i => pxN (numF xs) i (vS x) n 0 1) n := arr_congr fun i hi => by rw [iter_set (φ := fun i => pxN (numF xs) i (vS x) n 0 1), if_pos (by omega)]
      have eB : arrN (iterF (fun i B => upd B i (pxN (numF xs) i (numF xs i) n 0 1)) n 0 (fun _ => 0)) n = arrN (fun i => pxN (numF xs) i (numF xs i) n 0 1) n := arr_congr fun i hi => by rw [iter_set (φ := fun i => pxN (numF xs) i (numF xs i) n 0 1), if_pos (by omega)]
      have hB : LtE (fun i => pxN (numF xs) i (numF xs i) n 0 1) := fun i => pxN_lt _ _ _ one_lt_ell
      have hT : LtE (fun i => pxN (numF xs) i (vS x) n 0 1) := fun i => pxN_lt _ _ _ one_lt_ell
      have hz : hasZ (arrN (fun i => pxN (numF xs) i (numF xs i) n 0 1) n) = false := by
        unfold hasZ
        rw [arr_div, fz_of fun k _ hk => ?_]
        · rfl
        · rw [arr_elF _ (show k < n by omega), vS_sN (hB k)]
          exact pxN_ne (numF_lt xs) (show k < n by omega) (fun a b ha hb => hne a b ha hb) n 0 1 (by omega) one_lt_ell (by decide)
      rw [eT, eB, arr_okF (by omega), hz, cond_true, cond_false, arr_rows, invS_arr hB]
      refine (f50_mul _ (fun i => invN_lt _) h3 n 0 (by omega) (n + 1) (by omega) _ hT).trans ?_
      rw [show arrN (iterF (fun i T => upd T i (mulN (T i) (invN (pxN (numF xs) i (numF xs i) n 0 1)))) n 0 (fun i => pxN (numF xs) i (vS x) n 0 1)) n = arrN (basG (numF xs) (vS x) n) n from arr_congr fun i hi => by
        rw [iter_mul (fun i => invN (pxN (numF xs) i (numF xs i) n 0 1)), if_pos (by omega)]; rfl]
      exact h
  · exact (Option.some_ne_none _ h.symm).elim
end Go.Proofs.Ytogcijgklnfjjaa

namespace Go.Proofs.Ytogcijgklnfjjaa
open Go Go.Eng
set_option maxRecDepth 100000
set_option linter.unusedVariables false

def f16_0_sh : Shp := { n := 32, lo := 2, slots := [(0, .one (.fix (At.own 0))), (7, .one (.fix (At.own 1000007))), (15, .one (.fix (At.own 1))), (16, .one (.int IntKind.i64)), (17, .one (.int IntKind.i64))], items := [(1000007, .row (RK.mix ck43) 33), (0, .view (RK.one IntKind.u8) 32), (1, .view (RK.one IntKind.i64) 1)] }
def f16_0_ex1 : Shp := { n := 32, lo := 2, slots := [(18, .one (.bool)), (0, .one (.fix (At.own 0))), (7, .one (.fix (At.own 1000007))), (15, .one (.fix (At.own 1))), (16, .one (.int IntKind.i64)), (17, .one (.int IntKind.i64))], items := [(1000007, .row (RK.mix ck43) 33), (0, .view (RK.one IntKind.u8) 32), (1, .view (RK.one IntKind.i64) 1)] }
noncomputable def f16_0_st {R : Type} (N : Nat) (self : Int → Int → List Int → List Int → List Int → Option R) (k1 : Bool → Int → Int → List Int → List Int → List Int → Option R) (x1 : Int) (x2 : Int) (x3 : List Int) (x4 : List Int) (x5 : List Int) : Option R :=
 bif Decidable.decide (x2 < x1) then
 bif Decidable.decide (0 ≤ x2) && Decidable.decide (x2 < nI (rowLen 1 x5)) then
 bif okF x4 && okB (sN (plN (x5.getD (mulE x2.toNat 1) 0))) then
 let v0 : List Int := sN (evN x4 (vS (sN (plN (x5.getD (mulE x2.toNat 1) 0))))) ++ [];
 let v1 : List Int := x5.getD (mulE x2.toNat 1) 0 :: v0 ++ [];
 bif ((2 * (rowLen 33 x3 + rowLen 33 v1) + 192) * 40).ble big48 && (rowLen 33 x3 + rowLen 33 v1).ble big48 then
 let v2 : Int := IntKind.i64.wrap (x2 + 1);
 let v3 : List Int := x3 ++ v1;
 self x1 v2 v3 x4 x5
 else Option.none
 else Option.none
 else Option.none
else k1 (Decidable.decide (x2 < x1)) x1 x2 x3 x4 x5
noncomputable def f16_0_lp {R : Type} (N : Nat) (k1 : Bool → Int → Int → List Int → List Int → List Int → Option R) : Nat → Int → Int → List Int → List Int → List Int → Option R
 | 0, _, _, _, _, _ => none
 | n + 1, x1, x2, x3, x4, x5 => f16_0_st N (f16_0_lp N k1 n) k1 x1 x2 x3 x4 x5
noncomputable def f16_0_F (N : Nat) : (R : Type) → List Leaf → (X → AS → Option R) → Option R := fun _ ls K => match ls with
 | [.i x1, .i x2, .l x3, .l x4, .l x5] => f16_0_lp N (fun y1 y2 y3 y4 y5 y6 => K (X.normal) (fill f16_0_ex1 [.b y1, .i y2, .i y3, .l y4, .l y5, .l y6])) N x1 x2 x3 x4 x5
 | _ => none
noncomputable def f16_raw {R : Type} (N : Nat) (xs : List Int) (ids : List Int) (k : List DV → Option R) : Option R :=
 bif ids.length.ble 1073741824 then bif idsN ids != 0 then k [DV.lst (RK.mix ck43) 33 [], DV.v (SV.one (At.int IntKind.i64 (idsN ids)))] else f16_0_lp N (fun w0_1 w0_2 w0_3 w0_4 w0_5 w0_6 => k [DV.lst (RK.mix ck43) 33 w0_4, DV.v (SV.one (At.int IntKind.i64 0))]) N (nI (rowLen 1 ids)) 0 [] xs ids else Option.none


noncomputable def E16 (N : Nat) : Env := { Θ := Th, Γ := GT2, K := K16, ν := N16, fuel := 0, lp := [(0, mkL N16_0 f16_0_sh (f16_0_F N))] }

theorem f16_0_st_eq {R : Type} (N : Nat) (K : X → AS → Option R) (n : Nat) (x1 : Int) (x2 : Int) (x3 : List Int) (x4 : List Int) (x5 : List Int) : roundsOf (E16 N) N16_0 0 B16_0 K (n + 1) (fill f16_0_sh [.i x1, .i x2, .l x3, .l x4, .l x5]) = f16_0_st N (fun x1 x2 x3 x4 x5 => roundsOf (E16 N) N16_0 0 B16_0 K n (fill f16_0_sh [.i x1, .i x2, .l x3, .l x4, .l x5])) (fun y1 y2 y3 y4 y5 y6 => K (X.normal) (fill f16_0_ex1 [.b y1, .i y2, .i y3, .l y4, .l y5, .l y6])) x1 x2 x3 x4 x5 := by kernel_rfl
theorem f16_0_lp_eq {R : Type} (N : Nat) (K : X → AS → Option R) : ∀ (n : Nat) (x1 : Int) (x2 : Int) (x3 : List Int) (x4 : List Int) (x5 : List Int), roundsOf (E16 N) N16_0 0 B16_0 K n (fill f16_0_sh [.i x1, .i x2, .l x3, .l x4, .l x5]) = f16_0_lp N (fun y1 y2 y3 y4 y5 y6 => K (X.normal) (fill f16_0_ex1 [.b y1, .i y2, .i y3, .l y4, .l y5, .l y6])) n x1 x2 x3 x4 x5
  | 0, _, _, _, _, _ => rfl
  | n + 1, x1, x2, x3, x4, x5 => by
    rw [f16_0_st_eq, f16_0_lp, show (fun x1 x2 x3 x4 x5 => roundsOf (E16 N) N16_0 0 B16_0 K n (fill f16_0_sh [.i x1, .i x2, .l x3, .l x4, .l x5])) = f16_0_lp N (fun y1 y2 y3 y4 y5 y6 => K (X.normal) (fill f16_0_ex1 [.b y1, .i y2, .i y3, .l y4, .l y5, .l y6])) n from by funext x1 x2 x3 x4 x5; exact f16_0_lp_eq N K n x1 x2 x3 x4 x5]
theorem f16_0_ok (N : Nat) (hlp : LoopsOk Try.prog (E16 N).lp B16_0) (hΓ : CtxOk Try.prog (E16 N).Γ) : LoopOk Try.prog (mkL N16_0 f16_0_sh (f16_0_F N)) 0 B16_0 := by
  refine loopOk_of (E := E16 N) thOk hΓ mixed hlp ?_
  intro R ls K r h
  unfold f16_0_F at h
  split at h
  · exact ⟨N, by rw [f16_0_lp_eq]; exact h⟩
  · cases h

theorem lok16_0 (N : Nat) (hΓ : CtxOk Try.prog GT2) : LoopOk Try.prog (mkL N16_0 f16_0_sh (f16_0_F N)) 0 B16_0 := f16_0_ok N (loopsOk_of (l := []) (by kernel_rfl) trivial) hΓ
theorem f16_contract (N : Nat) (hΓ : CtxOk Try.prog GT2) : Contract Try.prog 16 { sig := S16, impl := fun _ ds k => call (E16 N) S16 32 B16 R16 ds k } :=
  call_contract (E := E16 N) thOk hΓ mixed ok16.look ok16.body ok16.n ok16.rv ok16.name rfl (by decide) (loopsOk_of (l := [(0, B16_0)]) (by kernel_rfl) (allOk_cons (L := mkL N16_0 f16_0_sh (f16_0_F N)) rfl (lok16_0 N hΓ) trivial))
theorem f16_raw_eq {R : Type} (N : Nat) (xs : List Int) (ids : List Int) (k : List DV → Option R) : call (E16 N) S16 32 B16 R16 [.lst (.one .u8) 32 xs, .lst (.one .i64) 1 ids] k = f16_raw N xs ids k := by kernel_rfl
end Go.Proofs.Ytogcijgklnfjjaa

namespace Go.Proofs.Ytogcijgklnfjjaa
open Go Go.Eng
set_option maxRecDepth 100000
set_option linter.unusedVariables false

theorem plN_lt (x : Int) : plN x < ell := by
  have h : plN x < 18446744073709551616 := by
    unfold plN IntKind.wrap
    simp only [IntKind.bits, IntKind.signed, Bool.false_and, Bool.false_eq_true, if_false, show (2 : Int) ^ 64 = 18446744073709551616 by decide]
    omega
  rw [ell_def]; omega
theorem headG_lenK {g : Nat → List Int} {K : Nat} (hg : ∀ i, (g i).length = K) : ∀ n, (headG g n).length = n * K
  | 0 => by simp [headG]
  | n + 1 => by rw [headG, List.length_append, headG_lenK hg n, hg, Nat.succ_mul]
theorem headG_split (g : Nat → List Int) {i : Nat} : ∀ {n}, i < n → ∃ C, headG g n = headG g i ++ (g i ++ C)
  | n + 1, h => by
    by_cases e : i = n
    · subst e; exact ⟨[], by rw [List.append_nil]; rfl⟩
    · obtain ⟨C, hC⟩ := headG_split g (i := i) (n := n) (by omega)
      exact ⟨C ++ g n, by show headG g n ++ g n = _; rw [hC]; simp [List.append_assoc]⟩
noncomputable def shG (d : Nat → Int) (f : Nat → Nat) (n : Nat) : List Int := headG (fun i => d i :: sN (f i)) n
theorem shG_len (d : Nat → Int) (f : Nat → Nat) (n : Nat) : (shG d f n).length = n * 33 := headG_lenK (fun i => by rw [List.length_cons, sN_len]) n
theorem shG_div (d : Nat → Int) (f : Nat → Nat) (n : Nat) : (shG d f n).length / 33 = n := by rw [shG_len]; omega
theorem f16_loop {R : Type} {N : Nat} (k1 : Bool → Int → Int → List Int → List Int → List Int → Option R) {xs ids : List Int} {n : Nat} (hx : okF xs = true) (hn : ids.length = n) (hb : n ≤ 1073741823) :
    ∀ j i : Nat, i + j = n → ∀ fuel, j < fuel → f16_0_lp N k1 fuel (n : Int) (i : Int) (shG (fun i => ids.getD i 0) (fun i => evN xs (plN (ids.getD i 0))) i) xs ids =
      k1 false (n : Int) (n : Int) (shG (fun i => ids.getD i 0) (fun i => evN xs (plN (ids.getD i 0))) n) xs ids := by
  intro j
  induction j with
  | zero =>
    intro i h fuel hf
    obtain ⟨f, rfl⟩ : ∃ f, fuel = f + 1 := ⟨fuel - 1, by omega⟩
    show f16_0_st N (f16_0_lp N _ f) _ _ _ _ _ _ = _
    unfold f16_0_st
    rw [ltF (by omega), cond_false, show i = n by omega]
  | succ j ih =>
    intro i h fuel hf
    obtain ⟨f, rfl⟩ : ∃ f, fuel = f + 1 := ⟨fuel - 1, by omega⟩
    show f16_0_st N (f16_0_lp N _ f) _ _ _ _ _ _ = _
    unfold f16_0_st
    rw [rows1, hn, ltT (show i < n by omega), ge0, show mulE (Int.toNat (i : Int)) 1 = i from rfl, hx, okB_sN, vS_sN (plN_lt _)]
    dsimp only
    rw [List.append_nil]
    have e1 : rowLen 33 (shG (fun i => ids.getD i 0) (fun i => evN xs (plN (ids.getD i 0))) i) = i := shG_div _ _ _
    have e2 : rowLen 33 (ids.getD i 0 :: (sN (evN xs (plN (ids.getD i 0))) ++ [])) = 1 := by
      show (ids.getD i 0 :: (sN (evN xs (plN (ids.getD i 0))) ++ [])).length / 33 = 1
      rw [List.append_nil, List.length_cons, sN_len]
    have hle : (Nat.ble ((2 * (i + 1) + 192) * 40) big48 && Nat.ble (i + 1) big48) = true := by
      rw [Bool.and_eq_true, Nat.ble_eq, Nat.ble_eq]; unfold big48; omega
    rw [e1, e2, hle, wAdd (by omega), List.append_nil]
    simp only [Bool.and_self, cond_true]
    exact ih (i + 1) (by omega) f (by omega)
noncomputable def splitG (xs ids : List Int) : List Int := shG (fun i => ids.getD i 0) (fun i => evN xs (plN (ids.getD i 0))) ids.length
noncomputable def I16 : (R : Type) → List DV → (List DV → Option R) → Option R := fun _ ds k => match ds with
  | [.lst (.one .u8) 32 xs, .lst (.one .i64) 1 ids] => bif okF xs && Nat.ble ids.length 1073741823 then (bif decide (idsN ids = 0) then k [.lst (.mix ck43) 33 (splitG xs ids), .v (.one (.int .i64 0))] else k [.lst (.mix ck43) 33 [], .v (.one (.int .i64 (idsN ids)))]) else none
  | _ => none
theorem c16 : Contract Try.prog 16 { sig := S16, impl := I16 } := by
  refine Contract.refine fun R ds k r h => ?_
  unfold I16 at h
  split at h
  · rename_i xs ids
    refine ⟨_, f16_contract (ids.length + 1) GT2_ok, ?_⟩
    cases hc : okF xs && Nat.ble ids.length 1073741823 with
    | false => rw [hc] at h; cases h
    | true =>
      rw [hc, cond_true] at h
      rw [Bool.and_eq_true] at hc
      have hb := Nat.le_of_ble_eq_true hc.2
      rw [f16_raw_eq]
      unfold f16_raw
      rw [show Nat.ble ids.length 1073741824 = true from Nat.ble_eq_true_of_le (by omega), cond_true]
      by_cases h0 : idsN ids = 0
      · rw [decide_eq_true h0, cond_true] at h
        rw [h0, show ((0 : Int) != 0) = false from rfl, cond_false]
        exact (f16_loop (N := ids.length + 1) _ hc.1 rfl hb ids.length 0 (by omega) (ids.length + 1) (by omega)).trans h
      · rw [decide_eq_false h0, cond_false] at h
        rw [show (idsN ids != 0) = true by simpa using h0, cond_true]
        exact h
  · exact (Option.some_ne_none _ h.symm).elim
end Go.Proofs.Ytogcijgklnfjjaa

namespace Go.Proofs.Ytogcijgklnfjjaa
open Go Go.Eng
set_option maxRecDepth 100000
set_option linter.unusedVariables false

theorem c40s : CtxOk Try.prog [(40, { sig := S40, impl := I40 })] := ctxOk_cons ok40 rfl c40 ctxOk_nil
noncomputable def plF (ids : List Int) (i : Nat) : Nat := plN (ids.getD i 0)
theorem plF_lt (ids : List Int) : LtE (plF ids) := fun _ => plN_lt _
theorem f51_loop {R : Type} {N : Nat} (k1 : Bool → Int → Int → List Int → List Int → Option R) {ids : List Int} {n : Nat} (hn : ids.length = n) (hb : n ≤ 33554432) :
    ∀ j i : Nat, i + j = n → ∀ fuel, j < fuel → f51_0_lp N k1 fuel (n : Int) (i : Int) (arrN (plF ids) i) ids = k1 false (n : Int) (n : Int) (arrN (plF ids) n) ids := by
  intro j
  induction j with
  | zero =>
    intro i h fuel hf
    obtain ⟨f, rfl⟩ : ∃ f, fuel = f + 1 := ⟨fuel - 1, by omega⟩
    show f51_0_st N (f51_0_lp N _ f) _ _ _ _ _ = _
    unfold f51_0_st
    rw [ltF (by omega), cond_false, show i = n by omega]
  | succ j ih =>
    intro i h fuel hf
    obtain ⟨f, rfl⟩ : ∃ f, fuel = f + 1 := ⟨fuel - 1, by omega⟩
    show f51_0_st N (f51_0_lp N _ f) _ _ _ _ _ = _
    unfold f51_0_st
    have r1 : rowLen 32 (arrN (plF ids) i) = i := arr_div _ i
    have r2 : ∀ v, rowLen 32 (sN v) = 1 := fun v => by show (sN v).length / 32 = 1; rw [sN_len]
    have hle : (Nat.ble ((2 * (i + 1) + 192) * 32) big48 && Nat.ble (i + 1) big48) = true := by
      rw [Bool.and_eq_true, Nat.ble_eq, Nat.ble_eq]; unfold big48; omega
    dsimp only
    rw [ltT (show i < n by omega), rows1, hn, ge0, ltT (show i < n by omega), show mulE (Int.toNat (i : Int)) 1 = i from rfl, one_row (sN_len _), r1, r2, hle, wAdd (by omega)]
    simp only [Bool.and_self, cond_true]
    exact ih (i + 1) (by omega) f (by omega)
noncomputable def I51 : (R : Type) → List DV → (List DV → Option R) → Option R := fun _ ds k => match ds with
  | [.lst (.one .i64) 1 ids] => bif Nat.ble ids.length 33554432 then k [.lst (.one .u8) 32 (arrN (plF ids) ids.length)] else none
  | _ => none
theorem c51 : Contract Try.prog 51 { sig := S51, impl := I51 } := by
  refine Contract.refine fun R ds k r h => ?_
  unfold I51 at h
  split at h
  · rename_i ids
    refine ⟨_, f51_contract (ids.length + 1) c40s, ?_⟩
    cases hc : Nat.ble ids.length 33554432 with
    | false => rw [hc] at h; cases h
    | true =>
      rw [hc, cond_true] at h
      rw [f51_raw_eq]
      unfold f51_raw
      exact (f51_loop (N := ids.length + 1) _ rfl (Nat.le_of_ble_eq_true hc) ids.length 0 (by omega) (ids.length + 1) (by omega)).trans h
  · exact (Option.some_ne_none _ h.symm).elim

def idxE (xs : List Int) (x : Int) : Nat → Nat → Int
  | 0, _ => -1
  | j + 1, i => bif x == xs.getD i 0 then (i : Int) else idxE xs x j (i + 1)
theorem f52_loop {R : Type} {N : Nat} (K : Int → Option R) {xs : List Int} {x : Int} {n : Nat} (hn : xs.length = n) (hb : n ≤ 1073741823) :
    ∀ j i : Nat, i + j = n → ∀ fuel, j < fuel → f52_0_lp N (fun w _ _ _ _ _ _ _ => K w) (fun _ _ _ _ _ => K (-1)) fuel x (n : Int) (i : Int) xs = K (idxE xs x j i) := by
  intro j
  induction j with
  | zero =>
    intro i h fuel hf
    obtain ⟨f, rfl⟩ : ∃ f, fuel = f + 1 := ⟨fuel - 1, by omega⟩
    show f52_0_st N (f52_0_lp N _ _ f) _ _ _ _ _ _ = _
    unfold f52_0_st
    rw [ltF (by omega), cond_false]; rfl
  | succ j ih =>
    intro i h fuel hf
    obtain ⟨f, rfl⟩ : ∃ f, fuel = f + 1 := ⟨fuel - 1, by omega⟩
    show f52_0_st N (f52_0_lp N _ _ f) _ _ _ _ _ _ = _
    unfold f52_0_st
    dsimp only
    rw [ltT (show i < n by omega), rows1, hn, ge0, ltT (show i < n by omega), show mulE (Int.toNat (i : Int)) 1 = i from rfl, wAdd (by omega), idxE]
    simp only [Bool.and_self, cond_true]
    cases x == xs.getD i 0 with
    | true => rfl
    | false => exact ih (i + 1) (by omega) f (by omega)
noncomputable def I52 : (R : Type) → List DV → (List DV → Option R) → Option R := fun _ ds k => match ds with
  | [.lst (.one .i64) 1 xs, .v (.one (.int .i64 x))] => bif Nat.ble xs.length 1073741823 then k [.v (.one (.int .i64 (idxE xs x xs.length 0)))] else none
  | _ => none
theorem c52 : Contract Try.prog 52 { sig := S52, impl := I52 } := by
  refine Contract.refine fun R ds k r h => ?_
  unfold I52 at h
  split at h
  · rename_i xs x
    refine ⟨_, f52_contract (xs.length + 1) GT2_ok, ?_⟩
    cases hc : Nat.ble xs.length 1073741823 with
    | false => rw [hc] at h; cases h
    | true =>
      rw [hc, cond_true] at h
      rw [f52_raw_eq]
      unfold f52_raw
      rw [rows1]
      exact (f52_loop (N := xs.length + 1) (fun w => k [DV.v (SV.one (At.int IntKind.i64 w))]) rfl (Nat.le_of_ble_eq_true hc) xs.length 0 (by omega) (xs.length + 1) (by omega)).trans h
  · exact (Option.some_ne_none _ h.symm).elim
def thrE (t : Int) : Int := bif decide (t < 1) || decide (t > 255) then 7 else 0
noncomputable def I70 : (R : Type) → List DV → (List DV → Option R) → Option R := fun _ ds k => match ds with
  | [.v (.one (.int .i64 t))] => k [.v (.one (.int .i64 (thrE t)))]
  | _ => none
theorem c70 : Contract Try.prog 70 { sig := S70, impl := I70 } := by
  refine Contract.refine fun R ds k r h => ⟨_, f70_contract 0 GT2_ok, ?_⟩
  unfold I70 at h
  split at h
  · rename_i t
    rw [f70_raw_eq]
    unfold f70_raw
    unfold thrE at h
    cases h1 : decide (t < 1) with
    | true => rw [h1] at h; exact h
    | false =>
      rw [h1, Bool.false_or] at h
      rw [cond_false]
      dsimp only
      rw [cond_false]
      cases h2 : decide (t > 255) with
      | true => rw [h2] at h; exact h
      | false => rw [h2] at h; exact h
  · cases h

def shId (s : List Int) (i : Nat) : Int := s.getD (i * 33) 0
def shV (s : List Int) (i : Nat) : List Int := List.take 32 (List.drop (i * 33 + 1) s)
def allB (f : Nat → Bool) : Nat → Bool
  | 0 => true
  | n + 1 => allB f n && f n
theorem allB_iff {f : Nat → Bool} : ∀ {n}, allB f n = true ↔ ∀ i, i < n → f i = true
  | 0 => by simp [allB]
  | n + 1 => by
    unfold allB
    rw [Bool.and_eq_true, allB_iff (n := n)]
    constructor
    · rintro ⟨h1, h2⟩ i hi
      by_cases e : i = n
      · subst e; exact h2
      · exact h1 i (by omega)
    · exact fun h => ⟨fun i hi => h i (by omega), h n (by omega)⟩
def okS (s : List Int) : Bool := (Nat.beq (s.length % 33) 0 && Nat.ble s.length 1073741824) && allB (fun i => okB (shV s i)) (s.length / 33)
theorem okS_n {s : List Int} (h : okS s = true) : s.length = (s.length / 33) * 33 ∧ s.length ≤ 1073741824 ∧ ∀ i, i < s.length / 33 → okB (shV s i) = true := by
  unfold okS at h
  simp only [Bool.and_eq_true] at h
  have h1 := Nat.eq_of_beq_eq_true h.1.1
  have h2 := Nat.le_of_ble_eq_true h.1.2
  exact ⟨by omega, h2, allB_iff.1 h.2⟩
def idsS (s : List Int) (n : Nat) : List Int := headG (fun i => [shId s i]) n
noncomputable def ptsS (s : List Int) (n : Nat) : List Int := headG (fun i => sN (plN (shId s i)) ++ (shV s i ++ [])) n
theorem idsS_len (s : List Int) (n : Nat) : (idsS s n).length = n := by
  have := headG_lenK (g := fun i => [shId s i]) (K := 1) (fun i => rfl) n
  unfold idsS; omega
theorem idsS_get (s : List Int) {i n : Nat} (h : i < n) : (idsS s n).getD i 0 = shId s i := by
  obtain ⟨C, hC⟩ := headG_split (fun i => [shId s i]) h
  have hl : (headG (fun i => [shId s i]) i).length = i := idsS_len s i
  unfold idsS
  rw [hC, List.getD_eq_getElem?_getD, List.getElem?_append_right (by omega), hl, Nat.sub_self]; rfl
theorem ptsS_len {s : List Int} (hs : okS s = true) : ∀ n, n ≤ s.length / 33 → (ptsS s n).length = n * 64
  | 0, _ => rfl
  | n + 1, h => by
    have ih := ptsS_len hs n (by omega)
    show (ptsS s n ++ (sN (plN (shId s n)) ++ (shV s n ++ []))).length = _
    rw [List.length_append, ih, List.length_append, sN_len, List.append_nil, okB_len' ((okS_n hs).2.2 n (by omega))]; omega
theorem ptsS_x {s : List Int} (hs : okS s = true) {i n : Nat} (h : i < n) (hn : n ≤ s.length / 33) : ptX (ptsS s n) i = sN (plN (shId s i)) ∧ ptY (ptsS s n) i = shV s i := by
  obtain ⟨C, hC⟩ := headG_split (fun i => sN (plN (shId s i)) ++ (shV s i ++ [])) h
  have hl : (headG (fun i => sN (plN (shId s i)) ++ (shV s i ++ [])) i).length = i * 64 := ptsS_len hs i (by omega)
  have hv := okB_len' ((okS_n hs).2.2 i (by omega))
  have e : (ptsS s n).drop (i * 64) = sN (plN (shId s i)) ++ (shV s i ++ C) := by
    unfold ptsS
    rw [hC, List.drop_left' hl, List.append_nil, List.append_assoc]
  constructor
  · unfold ptX; rw [e, List.take_left' (sN_len _)]
  · unfold ptY
    rw [← List.drop_drop, e, List.drop_left' (sN_len _), List.take_left' hv]
theorem ptsS_ok {s : List Int} (hs : okS s = true) {n : Nat} (hn : n ≤ s.length / 33) (hb : n ≤ 1048576) : okP (ptsS s n) = true := by
  unfold okP
  rw [Bool.and_eq_true, Bool.and_eq_true]
  refine ⟨⟨?_, ?_⟩, ?_⟩
  · rw [ptsS_len hs n hn, Nat.mul_mod_left]; rfl
  · rw [ptsS_len hs n hn]; exact Nat.ble_eq ▸ (by omega)
  · rw [List.all_eq_true]
    clear hb
    induction n with
    | zero => intro b hb; cases hb
    | succ n ih =>
      intro b hb
      have hb : b ∈ ptsS s n ++ (sN (plN (shId s n)) ++ (shV s n ++ [])) := hb
      have all : ∀ x : List Int, okB x = true → b ∈ x → (decide (0 ≤ b) && decide (b < 256)) = true := fun x hx hm => by
        unfold okB at hx
        rw [Bool.and_eq_true, List.all_eq_true] at hx
        exact hx.2 b hm
      rcases List.mem_append.1 hb with hb | hb
      · exact ih (by omega) b hb
      · rcases List.mem_append.1 hb with hb | hb
        · exact all _ (okB_sN _) hb
        · rw [List.append_nil] at hb
          exact all _ ((okS_n hs).2.2 n (by omega)) hb
theorem f49_loop {R : Type} {N : Nat} (k1 : Bool → Int → Int → List Int → List Int → List Int → Option R) {s : List Int} {n : Nat} (hs : okS s = true) (hn : s.length / 33 = n) :
    ∀ j i : Nat, i + j = n → ∀ fuel, j < fuel → f49_0_lp N k1 fuel (n : Int) (i : Int) (idsS s i) (ptsS s i) s = k1 false (n : Int) (n : Int) (idsS s n) (ptsS s n) s := by
  obtain ⟨b1, b2, b3⟩ := okS_n hs
  intro j
  induction j with
  | zero =>
    intro i h fuel hf
    obtain ⟨f, rfl⟩ : ∃ f, fuel = f + 1 := ⟨fuel - 1, by omega⟩
    show f49_0_st N (f49_0_lp N _ f) _ _ _ _ _ _ = _
    unfold f49_0_st
    rw [ltF (by omega), cond_false, show i = n by omega]
  | succ j ih =>
    intro i h fuel hf
    obtain ⟨f, rfl⟩ : ∃ f, fuel = f + 1 := ⟨fuel - 1, by omega⟩
    show f49_0_st N (f49_0_lp N _ f) _ _ _ _ _ _ = _
    unfold f49_0_st
    have hv := okB_len' (b3 i (by omega))
    have e1 : s.getD (Int.toNat (i : Int) * 33 + 0) 0 = shId s i := rfl
    have e2 : List.take 32 (List.drop (Int.toNat (i : Int) * 33 + (0 + 1)) s) = shV s i := rfl
    have e3 : (zerosOf (1 * 1)).set 0 (shId s i) = [shId s i] := rfl
    have r1 : rowLen 1 (idsS s i) = i := idsS_len s i
    have r2 : rowLen 1 [shId s i] = 1 := rfl
    have r3 : rowLen 64 (ptsS s i) = i := by show (ptsS s i).length / 64 = i; rw [ptsS_len hs i (by omega)]; omega
    have r4 : rowLen 64 (sN (plN (shId s i)) ++ (shV s i ++ []) ++ []) = 1 := by
      show (sN (plN (shId s i)) ++ (shV s i ++ []) ++ []).length / 64 = 1
      rw [List.append_nil, List.length_append, sN_len, List.append_nil, hv]
    have hle1 : (Nat.ble ((2 * (i + 1) + 192) * 8) big48 && Nat.ble (i + 1) big48) = true := by
      rw [Bool.and_eq_true, Nat.ble_eq, Nat.ble_eq]; unfold big48; omega
    have hle2 : (Nat.ble ((2 * (i + 1) + 192) * 64) big48 && Nat.ble (i + 1) big48) = true := by
      rw [Bool.and_eq_true, Nat.ble_eq, Nat.ble_eq]; unfold big48; omega
    have hr : nI (rowLen 33 s) = (n : Int) := by show (((s.length / 33 : Nat)) : Int) = _; rw [hn]
    dsimp only
    rw [ltT (show i < n by omega), hr, ge0, ltT (show i < n by omega), e1, e2, e3, r1, r2, hle1, r3, r4, hle2, wAdd (by omega), show sN (plN (shId s i)) ++ (shV s i ++ []) ++ [] = sN (plN (shId s i)) ++ (shV s i ++ []) from List.append_nil _]
    simp only [Bool.and_self, cond_true]
    exact ih (i + 1) (by omega) f (by omega)
noncomputable def I49 : (R : Type) → List DV → (List DV → Option R) → Option R := fun _ ds k => match ds with
  | [.lst (.mix l) 33 s] => match cksEq l ck43 with
    | true => bif okS s then k [.lst (.one .i64) 1 (idsS s (s.length / 33)), .lst (.mix ck32) 64 (ptsS s (s.length / 33))] else none
    | false => none
  | _ => none
theorem c49 : Contract Try.prog 49 { sig := S49, impl := I49 } := by
  refine Contract.refine fun R ds k r h => ?_
  unfold I49 at h
  split at h
  · rename_i l s
    refine ⟨_, f49_contract (s.length / 33 + 1) GT2_ok, ?_⟩
    split at h
    · rename_i hl
      have hl := cksEq_iff.1 hl
      subst hl
      cases hc : okS s with
      | false => rw [hc] at h; cases h
      | true =>
        rw [hc, cond_true] at h
        show call (E49 (s.length / 33 + 1)) S49 31 B49 R49 [DV.lst (RK.mix ck43) 33 s] k = some r
        rw [f49_raw_eq]
        unfold f49_raw
        exact (f49_loop (N := s.length / 33 + 1) _ hc rfl (s.length / 33) 0 (by omega) (s.length / 33 + 1) (by omega)).trans h
    · cases h
  · cases h
end Go.Proofs.Ytogcijgklnfjjaa

namespace Go.Proofs.Ytogcijgklnfjjaa
open Go Go.Eng Go.ChangeShapes Go.WideShapes Go.RowKit Go.ChangeAt
set_option maxRecDepth 100000
theorem okS_row {x : List Int} {len : Nat} (hm : len ≤ 1048576) (hl : x.length = len * 33) (hw : ∀ i y, x[i]? = some y → WfC (ckAt ck43 (i % 33)) y) : okS x = true := by
  unfold okS
  rw [hl, Nat.mul_mod_left, show Nat.ble (len * 33) 1073741824 = true from Nat.ble_eq_true_of_le (by omega), show len * 33 / 33 = len by omega]
  rw [show (Nat.beq 0 0 && true) = true from rfl, Bool.true_and]
  refine allB_iff.2 fun i hi => ?_
  unfold shV
  refine okB_row (by rw [List.length_take, List.length_drop, hl]; omega) fun y hy => ?_
  obtain ⟨j, hj⟩ := List.getElem?_of_mem hy
  have hj32 : j < 32 := by
    by_cases h : j < 32
    · exact h
    · rw [List.getElem?_eq_none (by rw [List.length_take]; omega)] at hj; cases hj
  rw [List.getElem?_take_of_lt hj32, List.getElem?_drop] at hj
  have h1 := hw _ y hj
  rw [show (i * 33 + 1 + j) % 33 = j + 1 by omega, ck43_at _ (by omega), if_neg (by omega)] at h1
  exact h1
end Go.Proofs.Ytogcijgklnfjjaa

namespace Go.Proofs.Ytogcijgklnfjjaa
open Go Go.Eng
noncomputable def GT4 : Ctx := (9, { sig := S9, impl := I9 }) :: (16, { sig := S16, impl := I16 }) :: (49, { sig := S49, impl := I49 }) :: (50, { sig := S50, impl := I50 }) :: (51, { sig := S51, impl := I51 }) :: (52, { sig := S52, impl := I52 }) :: (70, { sig := S70, impl := I70 }) :: GT2
theorem GT4_ok : CtxOk Try.prog GT4 := ctxOk_cons ok9 rfl c9 (ctxOk_cons ok16 rfl c16 (ctxOk_cons ok49 rfl c49 (ctxOk_cons ok50 rfl c50 (ctxOk_cons ok51 rfl c51 (ctxOk_cons ok52 rfl c52 (ctxOk_cons ok70 rfl c70 GT2_ok))))))
end Go.Proofs.Ytogcijgklnfjjaa

namespace Go.Proofs.Ytogcijgklnfjjaa
open Go Go.Eng
set_option maxRecDepth 100000
set_option linter.unusedVariables false

def f47_0_sh : Shp := { n := 38, lo := 2, slots := [(5, .one (.fix (At.own 17))), (22, .one (.slcE 0 0 64)), (23, .one (.int IntKind.i64)), (24, .one (.int IntKind.i64))], items := [(0, .view (RK.mix ck32) 64), (17, .row (RK.one IntKind.u8) 32)] }
def f47_0_ex1 : Shp := { n := 38, lo := 2, slots := [(4, .one (.bool)), (36, .one (.bool)), (8, .one (.fix (At.ptr 8 0 Off.z 64))), (25, .one (.bool)), (5, .one (.fix (At.own 17))), (22, .one (.slcE 0 0 64)), (23, .one (.int IntKind.i64)), (24, .one (.int IntKind.i64))], items := [(8, .obj [.ints IntKind.u8 32, .ints IntKind.u8 32]), (0, .view (RK.mix ck32) 64), (17, .row (RK.one IntKind.u8) 32)] }
def f47_0_ex2 : Shp := { n := 38, lo := 2, slots := [(25, .one (.bool)), (5, .one (.fix (At.own 17))), (22, .one (.slcE 0 0 64)), (23, .one (.int IntKind.i64)), (24, .one (.int IntKind.i64))], items := [(0, .view (RK.mix ck32) 64), (17, .row (RK.one IntKind.u8) 32)] }
noncomputable def f47_0_st {R : Type} (N : Nat) (self : Int → Int → Int → Int → List Int → List Int → Option R) (k1 : Bool → Bool → Bool → Int → Int → Int → Int → List Int → List Int → List Int → List Int → Option R) (k2 : Bool → Int → Int → Int → Int → List Int → List Int → Option R) (x1 : Int) (x2 : Int) (x3 : Int) (x4 : Int) (x5 : List Int) (x6 : List Int) : Option R :=
 bif Decidable.decide (x4 < x3) then
 bif Decidable.decide (0 ≤ x4) && Decidable.decide (x4 < nI x2.toNat) then
 bif okF x6 && okB (List.take 32 (List.drop ((x1.toNat + x4.toNat) * 64 + 0) x5)) then
 bif okB (List.take 32 (List.drop ((x1.toNat + x4.toNat) * 64 + (0 + 32)) x5)) && okB (List.replicate 32 0) then
 bif !Decidable.decide (sN (evN x6 (vS (List.take 32 (List.drop ((x1.toNat + x4.toNat) * 64 + 0) x5)))) = sN (addN (vS (List.take 32 (List.drop ((x1.toNat + x4.toNat) * 64 + (0 + 32)) x5))) (vS (List.replicate 32 0)))) then k1 Bool.false (!Decidable.decide (sN (evN x6 (vS (List.take 32 (List.drop ((x1.toNat + x4.toNat) * 64 + 0) x5)))) = sN (addN (vS (List.take 32 (List.drop ((x1.toNat + x4.toNat) * 64 + (0 + 32)) x5))) (vS (List.replicate 32 0))))) (Decidable.decide (x4 < x3)) (Int.ofNat x1.toNat) (Int.ofNat x2.toNat) x3 x4 (List.take 32 (List.drop ((x1.toNat + x4.toNat) * 64 + 0) x5)) (List.take 32 (List.drop ((x1.toNat + x4.toNat) * 64 + (0 + 32)) x5)) x5 x6
 else
 let v0 : Int := IntKind.i64.wrap (x4 + 1);
 self (Int.ofNat x1.toNat) (Int.ofNat x2.toNat) x3 v0 x5 x6
 else Option.none
 else Option.none
 else Option.none
else k2 (Decidable.decide (x4 < x3)) (Int.ofNat x1.toNat) (Int.ofNat x2.toNat) x3 x4 x5 x6
noncomputable def f47_0_lp {R : Type} (N : Nat) (k1 : Bool → Bool → Bool → Int → Int → Int → Int → List Int → List Int → List Int → List Int → Option R) (k2 : Bool → Int → Int → Int → Int → List Int → List Int → Option R) : Nat → Int → Int → Int → Int → List Int → List Int → Option R
 | 0, _, _, _, _, _, _ => none
 | n + 1, x1, x2, x3, x4, x5, x6 => f47_0_st N (f47_0_lp N k1 k2 n) k1 k2 x1 x2 x3 x4 x5 x6
noncomputable def f47_0_F (N : Nat) : (R : Type) → List Leaf → (X → AS → Option R) → Option R := fun _ ls K => match ls with
 | [.i x1, .i x2, .i x3, .i x4, .l x5, .l x6] => f47_0_lp N (fun y1 y2 y3 y4 y5 y6 y7 y8 y9 y10 y11 => K (X.ret) (fill f47_0_ex1 [.b y1, .b y2, .b y3, .i y4, .i y5, .i y6, .i y7, .l y8, .l y9, .l y10, .l y11])) (fun y1 y2 y3 y4 y5 y6 y7 => K (X.normal) (fill f47_0_ex2 [.b y1, .i y2, .i y3, .i y4, .i y5, .l y6, .l y7])) N x1 x2 x3 x4 x5 x6
 | _ => none
noncomputable def f47_raw {R : Type} (N : Nat) (p : List Int) (t : Int) (k : List DV → Option R) : Option R :=
 bif Decidable.decide (t ≥ nI (rowLen 64 p)) then k [DV.v (SV.one (At.bool Bool.true))]
else
 bif hiOk (Option.some t) (rowLen 64 p) then
 let v0 : List Int := Go.Eng.sub p (Off.el 0 64 0) (Go.Eng.subN (hiNat (Option.some t) (rowLen 64 p)) Option.none * 64);
 bif okP v0 then bif badP v0 then bif loOk (Option.some t) (hiInt Option.none (rowLen 64 p)) then f47_0_lp N (fun w1_1 w1_2 w1_3 w1_4 w1_5 w1_6 w1_7 w1_8 w1_9 w1_10 w1_11 => k [DV.v (SV.one (At.bool w1_1))]) (fun w2_1 w2_2 w2_3 w2_4 w2_5 w2_6 w2_7 => k [DV.v (SV.one (At.bool Bool.true))]) N (Int.ofNat t.toNat) (Int.ofNat (Go.Eng.subN (hiNat Option.none (rowLen 64 p)) (Option.some t))) (nI (Go.Eng.subN (hiNat Option.none (rowLen 64 p)) (Option.some t))) 0 p [] else Option.none else bif dupsP v0 then bif loOk (Option.some t) (hiInt Option.none (rowLen 64 p)) then f47_0_lp N (fun w3_1 w3_2 w3_3 w3_4 w3_5 w3_6 w3_7 w3_8 w3_9 w3_10 w3_11 => k [DV.v (SV.one (At.bool w3_1))]) (fun w4_1 w4_2 w4_3 w4_4 w4_5 w4_6 w4_7 => k [DV.v (SV.one (At.bool Bool.true))]) N (Int.ofNat t.toNat) (Int.ofNat (Go.Eng.subN (hiNat Option.none (rowLen 64 p)) (Option.some t))) (nI (Go.Eng.subN (hiNat Option.none (rowLen 64 p)) (Option.some t))) 0 p [] else Option.none else bif loOk (Option.some t) (hiInt Option.none (rowLen 64 p)) then f47_0_lp N (fun w5_1 w5_2 w5_3 w5_4 w5_5 w5_6 w5_7 w5_8 w5_9 w5_10 w5_11 => k [DV.v (SV.one (At.bool w5_1))]) (fun w6_1 w6_2 w6_3 w6_4 w6_5 w6_6 w6_7 => k [DV.v (SV.one (At.bool Bool.true))]) N (Int.ofNat t.toNat) (Int.ofNat (Go.Eng.subN (hiNat Option.none (rowLen 64 p)) (Option.some t))) (nI (Go.Eng.subN (hiNat Option.none (rowLen 64 p)) (Option.some t))) 0 p (arrN (newtG (pX v0) (pY v0) (v0.length / 64)) (v0.length / 64)) else Option.none else Option.none
 else Option.none


noncomputable def E47 (N : Nat) : Env := { Θ := Th, Γ := GT4, K := K47, ν := N47, fuel := 0, lp := [(0, mkL N47_0 f47_0_sh (f47_0_F N))] }

theorem f47_0_st_eq {R : Type} (N : Nat) (K : X → AS → Option R) (n : Nat) (x1 : Int) (x2 : Int) (x3 : Int) (x4 : Int) (x5 : List Int) (x6 : List Int) : roundsOf (E47 N) N47_0 0 B47_0 K (n + 1) (fill f47_0_sh [.i x1, .i x2, .i x3, .i x4, .l x5, .l x6]) = f47_0_st N (fun x1 x2 x3 x4 x5 x6 => roundsOf (E47 N) N47_0 0 B47_0 K n (fill f47_0_sh [.i x1, .i x2, .i x3, .i x4, .l x5, .l x6])) (fun y1 y2 y3 y4 y5 y6 y7 y8 y9 y10 y11 => K (X.ret) (fill f47_0_ex1 [.b y1, .b y2, .b y3, .i y4, .i y5, .i y6, .i y7, .l y8, .l y9, .l y10, .l y11])) (fun y1 y2 y3 y4 y5 y6 y7 => K (X.normal) (fill f47_0_ex2 [.b y1, .i y2, .i y3, .i y4, .i y5, .l y6, .l y7])) x1 x2 x3 x4 x5 x6 := by kernel_rfl
theorem f47_0_lp_eq {R : Type} (N : Nat) (K : X → AS → Option R) : ∀ (n : Nat) (x1 : Int) (x2 : Int) (x3 : Int) (x4 : Int) (x5 : List Int) (x6 : List Int), roundsOf (E47 N) N47_0 0 B47_0 K n (fill f47_0_sh [.i x1, .i x2, .i x3, .i x4, .l x5, .l x6]) = f47_0_lp N (fun y1 y2 y3 y4 y5 y6 y7 y8 y9 y10 y11 => K (X.ret) (fill f47_0_ex1 [.b y1, .b y2, .b y3, .i y4, .i y5, .i y6, .i y7, .l y8, .l y9, .l y10, .l y11])) (fun y1 y2 y3 y4 y5 y6 y7 => K (X.normal) (fill f47_0_ex2 [.b y1, .i y2, .i y3, .i y4, .i y5, .l y6, .l y7])) n x1 x2 x3 x4 x5 x6
  | 0, _, _, _, _, _, _ => rfl
  | n + 1, x1, x2, x3, x4, x5, x6 => by
    rw [f47_0_st_eq, f47_0_lp, show (fun x1 x2 x3 x4 x5 x6 => roundsOf (E47 N) N47_0 0 B47_0 K n (fill f47_0_sh [.i x1, .i x2, .i x3, .i x4, .l x5, .l x6])) = f47_0_lp N (fun y1 y2 y3 y4 y5 y6 y7 y8 y9 y10 y11 => K (X.ret) (fill f47_0_ex1 [.b y1, .b y2, .b y3, .i y4, .i y5, .i y6, .i y7, .l y8, .l y9, .l y10, .l y11])) (fun y1 y2 y3 y4 y5 y6 y7 => K (X.normal) (fill f47_0_ex2 [.b y1, .i y2, .i y3, .i y4, .i y5, .l y6, .l y7])) n from by funext x1 x2 x3 x4 x5 x6; exact f47_0_lp_eq N K n x1 x2 x3 x4 x5 x6]
theorem f47_0_ok (N : Nat) (hlp : LoopsOk Try.prog (E47 N).lp B47_0) (hΓ : CtxOk Try.prog (E47 N).Γ) : LoopOk Try.prog (mkL N47_0 f47_0_sh (f47_0_F N)) 0 B47_0 := by
  refine loopOk_of (E := E47 N) thOk hΓ mixed hlp ?_
  intro R ls K r h
  unfold f47_0_F at h
  split at h
  · exact ⟨N, by rw [f47_0_lp_eq]; exact h⟩
  · cases h

theorem lok47_0 (N : Nat) (hΓ : CtxOk Try.prog GT4) : LoopOk Try.prog (mkL N47_0 f47_0_sh (f47_0_F N)) 0 B47_0 := f47_0_ok N (loopsOk_of (l := []) (by kernel_rfl) trivial) hΓ
theorem f47_contract (N : Nat) (hΓ : CtxOk Try.prog GT4) : Contract Try.prog 47 { sig := S47, impl := fun _ ds k => call (E47 N) S47 38 B47 R47 ds k } :=
  call_contract (E := E47 N) thOk hΓ mixed ok47.look ok47.body ok47.n ok47.rv ok47.name rfl (by decide) (loopsOk_of (l := [(0, B47_0)]) (by kernel_rfl) (allOk_cons (L := mkL N47_0 f47_0_sh (f47_0_F N)) rfl (lok47_0 N hΓ) trivial))
theorem f47_raw_eq {R : Type} (N : Nat) (p : List Int) (t : Int) (k : List DV → Option R) : call (E47 N) S47 38 B47 R47 [.lst (.mix ck32) 64 p, .v (.one (.int .i64 t))] k = f47_raw N p t k := by kernel_rfl
end Go.Proofs.Ytogcijgklnfjjaa

namespace Go.Proofs.Ytogcijgklnfjjaa
open Go Go.Eng
set_option maxRecDepth 100000
set_option linter.unusedVariables false

def f48_0_sh : Shp := { n := 37, lo := 2, slots := [(3, .one (.fix (At.ptr 3 0 Off.z 32))), (4, .one (.fix (At.ptr 4 0 Off.z 32))), (5, .one (.fix (At.own 1000005))), (6, .one (.fix (At.own 1000006))), (11, .one (.fix (At.own 0))), (12, .one (.int IntKind.i64)), (13, .one (.int IntKind.i64))], items := [(1000005, .row (RK.one IntKind.u8) 32), (1000006, .row (RK.one IntKind.u8) 32), (0, .view (RK.mix ck32) 64), (3, .obj [.ints IntKind.u8 32]), (4, .obj [.ints IntKind.u8 32])] }
def f48_0_ex1 : Shp := { n := 37, lo := 2, slots := [(14, .one (.bool)), (3, .one (.fix (At.ptr 3 0 Off.z 32))), (4, .one (.fix (At.ptr 4 0 Off.z 32))), (5, .one (.fix (At.own 1000005))), (6, .one (.fix (At.own 1000006))), (11, .one (.fix (At.own 0))), (12, .one (.int IntKind.i64)), (13, .one (.int IntKind.i64))], items := [(1000005, .row (RK.one IntKind.u8) 32), (1000006, .row (RK.one IntKind.u8) 32), (0, .view (RK.mix ck32) 64), (3, .obj [.ints IntKind.u8 32]), (4, .obj [.ints IntKind.u8 32])] }
noncomputable def f48_0_st {R : Type} (N : Nat) (self : Int → Int → List Int → List Int → List Int → List Int → List Int → Option R) (k1 : Bool → Int → Int → List Int → List Int → List Int → List Int → List Int → Option R) (x1 : Int) (x2 : Int) (x3 : List Int) (x4 : List Int) (x5 : List Int) (x6 : List Int) (x7 : List Int) : Option R :=
 bif Decidable.decide (x2 < x1) then
 bif Decidable.decide (0 ≤ x2) && Decidable.decide (x2 < nI (rowLen 64 x5)) then
 let v0 : List Int := splice (zerosOf (1 * 32)) (Off.at (0 * 32)) (List.take 32 (List.drop (x2.toNat * 64 + 0) x5));
 bif ((2 * (rowLen 32 x3 + rowLen 32 v0) + 192) * 32).ble big48 && (rowLen 32 x3 + rowLen 32 v0).ble big48 then
 let v1 : List Int := splice (zerosOf (1 * 32)) (Off.at (0 * 32)) (List.take 32 (List.drop (x2.toNat * 64 + (0 + 32)) x5));
 bif ((2 * (rowLen 32 x4 + rowLen 32 v1) + 192) * 32).ble big48 && (rowLen 32 x4 + rowLen 32 v1).ble big48 then
 let v2 : Int := IntKind.i64.wrap (x2 + 1);
 let v3 : List Int := x3 ++ v0;
 let v4 : List Int := x4 ++ v1;
 self x1 v2 v3 v4 x5 x6 x7
 else Option.none
 else Option.none
 else Option.none
else k1 (Decidable.decide (x2 < x1)) x1 x2 x3 x4 x5 x6 x7
noncomputable def f48_0_lp {R : Type} (N : Nat) (k1 : Bool → Int → Int → List Int → List Int → List Int → List Int → List Int → Option R) : Nat → Int → Int → List Int → List Int → List Int → List Int → List Int → Option R
 | 0, _, _, _, _, _, _, _ => none
 | n + 1, x1, x2, x3, x4, x5, x6, x7 => f48_0_st N (f48_0_lp N k1 n) k1 x1 x2 x3 x4 x5 x6 x7
noncomputable def f48_0_F (N : Nat) : (R : Type) → List Leaf → (X → AS → Option R) → Option R := fun _ ls K => match ls with
 | [.i x1, .i x2, .l x3, .l x4, .l x5, .l x6, .l x7] => f48_0_lp N (fun y1 y2 y3 y4 y5 y6 y7 y8 => K (X.normal) (fill f48_0_ex1 [.b y1, .i y2, .i y3, .l y4, .l y5, .l y6, .l y7, .l y8])) N x1 x2 x3 x4 x5 x6 x7
 | _ => none
noncomputable def f48_raw {R : Type} (N : Nat) (p : List Int) (x : List Int) (k : List DV → Option R) : Option R :=
 f48_0_lp N (fun w0_1 w0_2 w0_3 w0_4 w0_5 w0_6 w0_7 w0_8 => bif okF w0_4 && (okB w0_7 && ((w0_4.length / 32).ble 30000 && !sameX w0_4)) then bif okF (arrN (basG (numF w0_4) (vS w0_7) (w0_4.length / 32)) (w0_4.length / 32)) && okF w0_5 then bif ((arrN (basG (numF w0_4) (vS w0_7) (w0_4.length / 32)) (w0_4.length / 32)).length / 32).beq (w0_5.length / 32) then k [DV.v (SV.one (At.ints IntKind.u8 32 (sN (dotF (arrN (basG (numF w0_4) (vS w0_7) (w0_4.length / 32)) (w0_4.length / 32)) w0_5 ((arrN (basG (numF w0_4) (vS w0_7) (w0_4.length / 32)) (w0_4.length / 32)).length / 32)))))] else k [DV.v (SV.one (At.ints IntKind.u8 32 (List.replicate 32 0)))] else Option.none else Option.none) N (nI (rowLen 64 p)) 0 [] [] p x (List.replicate 32 0)


noncomputable def E48 (N : Nat) : Env := { Θ := Th, Γ := GT4, K := K48, ν := N48, fuel := 0, lp := [(0, mkL N48_0 f48_0_sh (f48_0_F N))] }

theorem f48_0_st_eq {R : Type} (N : Nat) (K : X → AS → Option R) (n : Nat) (x1 : Int) (x2 : Int) (x3 : List Int) (x4 : List Int) (x5 : List Int) (x6 : List Int) (x7 : List Int) : roundsOf (E48 N) N48_0 0 B48_0 K (n + 1) (fill f48_0_sh [.i x1, .i x2, .l x3, .l x4, .l x5, .l x6, .l x7]) = f48_0_st N (fun x1 x2 x3 x4 x5 x6 x7 => roundsOf (E48 N) N48_0 0 B48_0 K n (fill f48_0_sh [.i x1, .i x2, .l x3, .l x4, .l x5, .l x6, .l x7])) (fun y1 y2 y3 y4 y5 y6 y7 y8 => K (X.normal) (fill f48_0_ex1 [.b y1, .i y2, .i y3, .l y4, .l y5, .l y6, .l y7, .l y8])) x1 x2 x3 x4 x5 x6 x7 := by kernel_rfl
theorem f48_0_lp_eq {R : Type} (N : Nat) (K : X → AS → Option R) : ∀ (n : Nat) (x1 : Int) (x2 : Int) (x3 : List Int) (x4 : List Int) (x5 : List Int) (x6 : List Int) (x7 : List Int), roundsOf (E48 N) N48_0 0 B48_0 K n (fill f48_0_sh [.i x1, .i x2, .l x3, .l x4, .l x5, .l x6, .l x7]) = f48_0_lp N (fun y1 y2 y3 y4 y5 y6 y7 y8 => K (X.normal) (fill f48_0_ex1 [.b y1, .i y2, .i y3, .l y4, .l y5, .l y6, .l y7, .l y8])) n x1 x2 x3 x4 x5 x6 x7
  | 0, _, _, _, _, _, _, _ => rfl
  | n + 1, x1, x2, x3, x4, x5, x6, x7 => by
    rw [f48_0_st_eq, f48_0_lp, show (fun x1 x2 x3 x4 x5 x6 x7 => roundsOf (E48 N) N48_0 0 B48_0 K n (fill f48_0_sh [.i x1, .i x2, .l x3, .l x4, .l x5, .l x6, .l x7])) = f48_0_lp N (fun y1 y2 y3 y4 y5 y6 y7 y8 => K (X.normal) (fill f48_0_ex1 [.b y1, .i y2, .i y3, .l y4, .l y5, .l y6, .l y7, .l y8])) n from by funext x1 x2 x3 x4 x5 x6 x7; exact f48_0_lp_eq N K n x1 x2 x3 x4 x5 x6 x7]
theorem f48_0_ok (N : Nat) (hlp : LoopsOk Try.prog (E48 N).lp B48_0) (hΓ : CtxOk Try.prog (E48 N).Γ) : LoopOk Try.prog (mkL N48_0 f48_0_sh (f48_0_F N)) 0 B48_0 := by
  refine loopOk_of (E := E48 N) thOk hΓ mixed hlp ?_
  intro R ls K r h
  unfold f48_0_F at h
  split at h
  · exact ⟨N, by rw [f48_0_lp_eq]; exact h⟩
  · cases h

theorem lok48_0 (N : Nat) (hΓ : CtxOk Try.prog GT4) : LoopOk Try.prog (mkL N48_0 f48_0_sh (f48_0_F N)) 0 B48_0 := f48_0_ok N (loopsOk_of (l := []) (by kernel_rfl) trivial) hΓ
theorem f48_contract (N : Nat) (hΓ : CtxOk Try.prog GT4) : Contract Try.prog 48 { sig := S48, impl := fun _ ds k => call (E48 N) S48 37 B48 R48 ds k } :=
  call_contract (E := E48 N) thOk hΓ mixed ok48.look ok48.body ok48.n ok48.rv ok48.name rfl (by decide) (loopsOk_of (l := [(0, B48_0)]) (by kernel_rfl) (allOk_cons (L := mkL N48_0 f48_0_sh (f48_0_F N)) rfl (lok48_0 N hΓ) trivial))
theorem f48_raw_eq {R : Type} (N : Nat) (p : List Int) (x : List Int) (k : List DV → Option R) : call (E48 N) S48 37 B48 R48 [.lst (.mix ck32) 64 p, .v (.one (.ints .u8 32 x))] k = f48_raw N p x k := by kernel_rfl
end Go.Proofs.Ytogcijgklnfjjaa

namespace Go.Proofs.Ytogcijgklnfjjaa
open Go Go.Eng
set_option maxRecDepth 100000
set_option linter.unusedVariables false

noncomputable def f44_raw {R : Type} (N : Nat) (s : List Int) (t : Int) (l : Int) (k : List DV → Option R) : Option R :=
 bif thrE t != 0 then k [DV.lst (RK.mix ck32) 64 [], DV.v (SV.one (At.int IntKind.i64 (thrE t)))] else bif Decidable.decide (nI (rowLen 33 s) < l) then k [DV.lst (RK.mix ck32) 64 [], DV.v (SV.one (At.int IntKind.i64 8))] else bif okS s then bif (idsS s (s.length / 33)).length.ble 1073741824 then k [DV.lst (RK.mix ck32) 64 (ptsS s (s.length / 33)), DV.v (SV.one (At.int IntKind.i64 (idsN (idsS s (s.length / 33)))))] else Option.none else Option.none


noncomputable def E44 (N : Nat) : Env := { Θ := Th, Γ := GT4, K := K44, ν := N44, fuel := 0, lp := [] }


theorem f44_contract (N : Nat) (hΓ : CtxOk Try.prog GT4) : Contract Try.prog 44 { sig := S44, impl := fun _ ds k => call (E44 N) S44 28 B44 R44 ds k } :=
  call_contract (E := E44 N) thOk hΓ mixed ok44.look ok44.body ok44.n ok44.rv ok44.name rfl (by decide) (loopsOk_of (l := []) (by kernel_rfl) trivial)
theorem f44_raw_eq {R : Type} (N : Nat) (s : List Int) (t : Int) (l : Int) (k : List DV → Option R) : call (E44 N) S44 28 B44 R44 [.lst (.mix ck43) 33 s, .v (.one (.int .i64 t)), .v (.one (.int .i64 l))] k = f44_raw N s t l k := by kernel_rfl
end Go.Proofs.Ytogcijgklnfjjaa

namespace Go.Proofs.Ytogcijgklnfjjaa
open Go Go.Eng
set_option maxRecDepth 100000
set_option linter.unusedVariables false

instance : NeZero ell := ⟨by have := ell_pos; omega⟩
abbrev Q := Fin ell
def q (n : Nat) : Q := Fin.ofNat ell n
theorem q_val (n : Nat) : (q n).val = n % ell := rfl
theorem q_eq {a b : Nat} : q a = q b ↔ a % ell = b % ell := by
  constructor
  · intro h; have := congrArg Fin.val h; exact this
  · intro h; exact Fin.ext h
theorem q_inj {a b : Nat} (ha : a < ell) (hb : b < ell) (h : q a = q b) : a = b := by
  have := q_eq.1 h
  rwa [Nat.mod_eq_of_lt ha, Nat.mod_eq_of_lt hb] at this
theorem q_mod (a : Nat) : q (a % ell) = q a := q_eq.2 (Nat.mod_mod _ _)
theorem q_add' (a b : Nat) : q (a + b) = q a + q b := Fin.ext (by
  show (a + b) % ell = (a % ell + b % ell) % ell
  rw [← Nat.add_mod])
theorem q_mul' (a b : Nat) : q (a * b) = q a * q b := Fin.ext (by
  show (a * b) % ell = (a % ell * (b % ell)) % ell
  rw [← Nat.mul_mod])
theorem q_zero : q 0 = 0 := rfl
theorem q_one : q 1 = 1 := rfl
theorem q_add (a b : Nat) : q (addN a b) = q a + q b := by rw [addN_def, q_mod, q_add']
theorem q_mul (a b : Nat) : q (mulN a b) = q a * q b := by rw [mulN_def, q_mod, q_mul']
theorem q_neg {a : Nat} (h : a < ell) : q (negN a) = -q a := by
  have e : q (negN a) + q a = 0 := by rw [← q_add, addN_comm, addN_negN h, q_zero]
  grind
theorem q_dif (a : Nat) {b : Nat} (h : b < ell) : q (difN a b) = q a - q b := by
  unfold difN; rw [q_add, q_neg h]; grind
noncomputable def qi (a : Q) : Q := q (invN a.val)
theorem q_self (a : Q) : q a.val = a := Fin.ext (Nat.mod_eq_of_lt a.isLt)
theorem q_inv {a : Nat} (h : a < ell) : q (invN a) = qi (q a) := by unfold qi; rw [q_val, Nat.mod_eq_of_lt h]
theorem qi_mul {a : Q} (h : a ≠ 0) : a * qi a = 1 := by
  unfold qi
  have h0 : a.val ≠ 0 := fun e => h (by rw [← q_self a, e, q_zero])
  rw [← q_self a, q_val, Nat.mod_eq_of_lt a.isLt, ← q_mul, mulN_inv a.isLt h0, q_one]
theorem no_zero {a b : Q} (h : a * b = 0) : a = 0 ∨ b = 0 := by
  by_cases ha : a = 0
  · exact .inl ha
  · right
    have h1 := qi_mul ha
    grind
theorem sub_ne {a b : Q} (h : a ≠ b) : a - b ≠ 0 := fun e => h (by grind)
theorem q_ne {a b : Nat} (ha : a < ell) (hb : b < ell) (h : a ≠ b) : q a ≠ q b := fun e => h (q_inj ha hb e)

noncomputable def ev : Nat → (Nat → Q) → Q → Q
  | 0, _, _ => 0
  | n + 1, c, x => c 0 + x * ev n (fun i => c (i + 1)) x
noncomputable def pw (x : Q) : Nat → Q
  | 0 => 1
  | n + 1 => x * pw x n
theorem ev_congr : ∀ {n : Nat} {c d : Nat → Q} {x : Q}, (∀ i, i < n → c i = d i) → ev n c x = ev n d x
  | 0, _, _, _, _ => rfl
  | n + 1, c, d, x, h => by
    unfold ev
    rw [h 0 (by omega), ev_congr (n := n) (c := fun i => c (i + 1)) (d := fun i => d (i + 1)) fun i hi => h (i + 1) (by omega)]
theorem ev_sub : ∀ (n : Nat) (c d : Nat → Q) (x : Q), ev n (fun i => c i - d i) x = ev n c x - ev n d x
  | 0, _, _, _ => by unfold ev; grind
  | n + 1, c, d, x => by
    unfold ev
    rw [ev_sub n (fun i => c (i + 1)) (fun i => d (i + 1)) x]; grind
theorem ev_smul : ∀ (n : Nat) (a : Q) (c : Nat → Q) (x : Q), ev n (fun i => a * c i) x = a * ev n c x
  | 0, _, _, _ => by unfold ev; grind
  | n + 1, a, c, x => by
    unfold ev
    rw [ev_smul n a (fun i => c (i + 1)) x]; grind
theorem ev_zero (n : Nat) (x : Q) : ev n (fun _ => 0) x = 0 := by
  induction n with
  | zero => rfl
  | succ n ih => unfold ev; rw [ih]; grind
theorem ev_snoc : ∀ (n : Nat) (c : Nat → Q) (x : Q), ev (n + 1) c x = ev n c x + c n * pw x n
  | 0, c, x => by unfold ev ev pw; grind
  | n + 1, c, x => by
    have ih := ev_snoc n (fun i => c (i + 1)) x
    have e1 : ev (n + 2) c x = c 0 + x * ev (n + 1) (fun i => c (i + 1)) x := rfl
    have e2 : ev (n + 1) c x = c 0 + x * ev n (fun i => c (i + 1)) x := rfl
    have e3 : pw x (n + 1) = x * pw x n := rfl
    rw [e1, e2, e3, ih]; grind
noncomputable def quo : Nat → (Nat → Q) → Q → Nat → Q
  | 0, _, _, _ => 0
  | n + 1, c, s, 0 => ev (n + 1) (fun i => c (i + 1)) s
  | n + 1, c, s, i + 1 => quo n (fun i => c (i + 1)) s i
theorem quo_ev : ∀ (n : Nat) (c : Nat → Q) (s x : Q), ev (n + 1) c x = ev (n + 1) c s + (x - s) * ev n (quo n c s) x
  | 0, c, s, x => by
    have e1 : ∀ y : Q, ev 1 c y = c 0 + y * 0 := fun y => rfl
    have e2 : ev 0 (quo 0 c s) x = 0 := rfl
    rw [e1, e1, e2]; grind
  | n + 1, c, s, x => by
    have ih := quo_ev n (fun i => c (i + 1)) s x
    have e1 : ∀ y, ev (n + 2) c y = c 0 + y * ev (n + 1) (fun i => c (i + 1)) y := fun _ => rfl
    have e2 : ev (n + 1) (quo (n + 1) c s) x = ev (n + 1) (fun i => c (i + 1)) s + x * ev n (quo n (fun i => c (i + 1)) s) x := rfl
    rw [e1 x, e1 s, e2, ih]; grind
theorem quo_top : ∀ (n : Nat) (c : Nat → Q) (s : Q) (i : Nat), n ≤ i → quo n c s i = 0
  | 0, _, _, _, _ => rfl
  | n + 1, c, s, i + 1, h => quo_top n _ s i (by omega)
theorem quo_rec : ∀ (n : Nat) (c : Nat → Q) (s : Q) (j : Nat), j < n → quo n c s j = c (j + 1) + s * quo n c s (j + 1)
  | n + 1, c, s, 0, _ => by
    have e1 : quo (n + 1) c s 0 = c 1 + s * ev n (fun i => c (i + 1 + 1)) s := rfl
    have e2 : quo (n + 1) c s 1 = quo n (fun i => c (i + 1)) s 0 := rfl
    rw [e1, e2]
    cases n with
    | zero => rfl
    | succ n => rfl
  | n + 1, c, s, j + 1, h => quo_rec n (fun i => c (i + 1)) s j (by omega)
theorem roots : ∀ (n : Nat) (c r : Nat → Q), (∀ i, i < n → ev n c (r i) = 0) → (∀ i j, i < j → j < n → r i ≠ r j) → ∀ i, i < n → c i = 0
  | 0, _, _, _, _, i, h => by omega
  | n + 1, c, r, h, hd, i, hi => by
    have hs := h n (by omega)
    have hq : ∀ j, j < n → quo n c (r n) j = 0 := roots n (quo n c (r n)) r (fun j hj => by
      have h1 := quo_ev n c (r n) (r j)
      rw [h j (by omega), hs] at h1
      have h2 : (r j - r n) * ev n (quo n c (r n)) (r j) = 0 := by grind
      rcases no_zero h2 with h3 | h3
      · exact absurd h3 (sub_ne (hd j n hj (by omega)))
      · exact h3) (fun a b h1 h2 => hd a b h1 (by omega))
    have hc : ∀ j, j < n → c (j + 1) = 0 := fun j hj => by
      have h1 := quo_rec n c (r n) j hj
      have h2 : quo n c (r n) (j + 1) = 0 := by
        by_cases e : j + 1 < n
        · exact hq _ e
        · exact quo_top n c _ _ (by omega)
      rw [hq j hj, h2] at h1; grind
    cases i with
    | succ i => exact hc i (by omega)
    | zero =>
      have e1 : ev (n + 1) c (r n) = c 0 + r n * ev n (fun i => c (i + 1)) (r n) := rfl
      rw [hs, ev_congr (d := fun _ => 0) (fun j hj => hc j hj), ev_zero] at e1
      grind
theorem unique {n : Nat} {c d r : Nat → Q} (h : ∀ i, i < n → ev n c (r i) = ev n d (r i)) (hd : ∀ i j, i < j → j < n → r i ≠ r j) : ∀ i, i < n → c i = d i := fun i hi => by
  have := roots n (fun i => c i - d i) r (fun j hj => by rw [ev_sub, h j hj]; grind) hd i hi
  grind

theorem ev_upd (g : Nat → Nat) (i v : Nat) (x : Q) : ∀ (n : Nat), i < n → ev n (fun j => q (upd g i v j)) x = ev n (fun j => q (g j)) x + (q v - q (g i)) * pw x i
  | n + 1, h => by
    rw [ev_snoc, ev_snoc]
    by_cases e : i = n
    · subst e
      rw [show upd g i v i = v by simp [upd], ev_congr (d := fun j => q (g j)) fun j hj => by simp [upd, show j ≠ i by omega]]
      grind
    · rw [ev_upd g i v x n (by omega), show upd g i v n = g n by simp [upd, show n ≠ i from fun q => e q.symm]]
      grind
end Go.Proofs.Ytogcijgklnfjjaa

namespace Go.Proofs.Ytogcijgklnfjjaa
open Go Go.Eng
set_option maxRecDepth 100000
set_option linter.unusedVariables false

section
variable (X y : Nat → Q)
noncomputable def nev : Nat → Nat → Q → Q
  | a, 0, _ => y a
  | a, m + 1, x => ((x - X a) * nev (a + 1) m x - (x - X (a + m + 1)) * nev a m x) * qi (X (a + m + 1) - X a)
noncomputable def dd : Nat → Nat → Q
  | 0, j => y j
  | k + 1, j => (dd k j - dd k (j - 1)) * qi (X j - X (j - (k + 1)))
noncomputable def pr (a : Nat) : Nat → Q → Q
  | 0, _ => 1
  | m + 1, x => pr a m x * (x - X (a + m))
theorem pr_front (a : Nat) (x : Q) : ∀ m, pr X a (m + 1) x = (x - X a) * pr X (a + 1) m x
  | 0 => by
    have e1 : pr X a 1 x = 1 * (x - X (a + 0)) := rfl
    have e2 : pr X (a + 1) 0 x = 1 := rfl
    rw [e1, e2, Nat.add_zero]; grind
  | m + 1 => by
    have ih := pr_front a x m
    have e1 : pr X a (m + 2) x = pr X a (m + 1) x * (x - X (a + (m + 1))) := rfl
    have e2 : pr X (a + 1) (m + 1) x = pr X (a + 1) m x * (x - X (a + 1 + m)) := rfl
    rw [e1, e2, ih, show a + (m + 1) = a + 1 + m by omega]; grind
theorem nev_both : ∀ (m a : Nat) (x : Q), (∀ i j, a ≤ i → i < j → j ≤ a + m + 1 → X i ≠ X j) →
    nev X y a (m + 1) x = nev X y a m x + dd X y (m + 1) (a + m + 1) * pr X a (m + 1) x ∧
    nev X y a (m + 1) x = nev X y (a + 1) m x + dd X y (m + 1) (a + m + 1) * pr X (a + 1) (m + 1) x
  | 0, a, x, h => by
    have hd := qi_mul (sub_ne (h a (a + 1) (by omega) (by omega) (by omega)).symm)
    have e1 : nev X y a 1 x = ((x - X a) * y (a + 1) - (x - X (a + 1)) * y a) * qi (X (a + 1) - X a) := rfl
    have e2 : dd X y 1 (a + 0 + 1) = (y (a + 1) - y a) * qi (X (a + 1) - X a) := by
      show (y (a + 0 + 1) - y (a + 0 + 1 - 1)) * qi (X (a + 0 + 1) - X (a + 0 + 1 - (0 + 1))) = _
      rfl
    have e3 : pr X a 1 x = 1 * (x - X (a + 0)) := rfl
    have e4 : pr X (a + 1) 1 x = 1 * (x - X (a + 1 + 0)) := rfl
    have e5 : nev X y a 0 x = y a := rfl
    have e6 : nev X y (a + 1) 0 x = y (a + 1) := rfl
    rw [Nat.add_zero] at e3 e4
    rw [show (0 : Nat) + 1 = 1 from rfl, e1, e2, e3, e4, e5, e6]
    constructor <;> grind
  | m + 1, a, x, h => by
    obtain ⟨a1, a2⟩ := nev_both m a x fun i j h1 h2 h3 => h i j h1 h2 (by omega)
    obtain ⟨b1, b2⟩ := nev_both m (a + 1) x fun i j h1 h2 h3 => h i j (by omega) h2 (by omega)
    have hd := qi_mul (sub_ne (h a (a + m + 2) (by omega) (by omega) (by omega)).symm)
    have e1 : nev X y a (m + 2) x = ((x - X a) * nev X y (a + 1) (m + 1) x - (x - X (a + m + 2)) * nev X y a (m + 1) x) * qi (X (a + m + 2) - X a) := rfl
    have e2 : dd X y (m + 2) (a + (m + 1) + 1) = (dd X y (m + 1) (a + m + 2) - dd X y (m + 1) (a + m + 1)) * qi (X (a + m + 2) - X a) := by
      show (dd X y (m + 1) (a + (m + 1) + 1) - dd X y (m + 1) (a + (m + 1) + 1 - 1)) * qi (X (a + (m + 1) + 1) - X (a + (m + 1) + 1 - (m + 1 + 1))) = _
      rw [show a + (m + 1) + 1 - 1 = a + m + 1 by omega, show a + (m + 1) + 1 - (m + 1 + 1) = a by omega, show a + (m + 1) + 1 = a + m + 2 by omega]
    rw [show a + 1 + m + 1 = a + m + 2 by omega] at b1 b2
    have e3 : pr X a (m + 2) x = (x - X a) * pr X (a + 1) (m + 1) x := pr_front X a x (m + 1)
    have e4 : pr X (a + 1) (m + 2) x = pr X (a + 1) (m + 1) x * (x - X (a + m + 2)) := by
      show pr X (a + 1) (m + 1) x * (x - X (a + 1 + (m + 1))) = _
      rw [show a + 1 + (m + 1) = a + m + 2 by omega]
    rw [show m + 1 + 1 = m + 2 from rfl, e2, e3, e4]
    
    generalize nev X y (a + 1) m x = C at *
    generalize pr X (a + 1) (m + 1) x = M at *
    generalize dd X y (m + 1) (a + m + 2) = d2 at *
    generalize dd X y (m + 1) (a + m + 1) = d1 at *
    rw [b1, a2] at e1
    rw [b1, a2, e1]
    generalize qi (X (a + m + 2) - X a) = I at *
    generalize X (a + m + 2) = u at *
    generalize X a = v at *
    constructor <;> grind
theorem nev_at : ∀ (m a i : Nat), a ≤ i → i ≤ a + m → (∀ i j, a ≤ i → i < j → j ≤ a + m → X i ≠ X j) → nev X y a m (X i) = y i
  | 0, a, i, h1, h2, _ => by rw [show i = a by omega]; rfl
  | m + 1, a, i, h1, h2, h => by
    have hd := qi_mul (sub_ne (h a (a + m + 1) (by omega) (by omega) (by omega)).symm)
    have e1 : nev X y a (m + 1) (X i) = ((X i - X a) * nev X y (a + 1) m (X i) - (X i - X (a + m + 1)) * nev X y a m (X i)) * qi (X (a + m + 1) - X a) := rfl
    rw [e1]
    by_cases c1 : i = a
    · rw [c1, nev_at m a a (by omega) (by omega) fun i j h1 h2 h3 => h i j h1 h2 (by omega)]; grind
    · by_cases c2 : i = a + m + 1
      · rw [c2, nev_at m (a + 1) (a + m + 1) (by omega) (by omega) fun i j h1 h2 h3 => h i j (by omega) h2 (by omega)]; grind
      · rw [nev_at m a i (by omega) (by omega) fun i j h1 h2 h3 => h i j h1 h2 (by omega), nev_at m (a + 1) i (by omega) (by omega) fun i j h1 h2 h3 => h i j (by omega) h2 (by omega)]; grind
noncomputable def nest (D : Nat → Q) : Nat → Nat → Q → Q
  | _, 0, _ => 0
  | k, m + 1, x => D k + (x - X k) * nest D (k + 1) m x
theorem nest_last (D : Nat → Q) (x : Q) : ∀ (m k : Nat), nest X D k (m + 1) x = nest X D k m x + D (k + m) * pr X k m x
  | 0, k => by
    have e1 : nest X D k 1 x = D k + (x - X k) * 0 := rfl
    have e2 : nest X D k 0 x = 0 := rfl
    have e3 : pr X k 0 x = 1 := rfl
    rw [e1, e2, e3, Nat.add_zero]; grind
  | m + 1, k => by
    have ih := nest_last D x m (k + 1)
    have e1 : nest X D k (m + 2) x = D k + (x - X k) * nest X D (k + 1) (m + 1) x := rfl
    have e2 : nest X D k (m + 1) x = D k + (x - X k) * nest X D (k + 1) m x := rfl
    rw [e1, e2, ih, pr_front, show k + 1 + m = k + (m + 1) by omega]; grind
theorem nest_nev (x : Q) : ∀ m, (∀ i j, i < j → j ≤ m → X i ≠ X j) → nest X (fun k => dd X y k k) 0 (m + 1) x = nev X y 0 m x
  | 0, _ => by
    have e1 : nest X (fun k => dd X y k k) 0 1 x = y 0 + (x - X 0) * 0 := rfl
    have e2 : nev X y 0 0 x = y 0 := rfl
    rw [e1, e2]; grind
  | m + 1, h => by
    rw [nest_last, nest_nev x m fun i j h1 h2 => h i j h1 (by omega), (nev_both X y m 0 x fun i j _ h2 h3 => h i j h2 (by omega)).1]
    simp only [Nat.zero_add]
end

theorem down_get {φ : Nat → (Nat → Nat) → Nat} (hφ : ∀ i g g', (∀ j, j ≤ i → g j = g' j) → φ i g = φ i g') (k : Nat) : ∀ (m : Nat) (g : Nat → Nat) (j : Nat),
    downF (fun i g => upd g i (φ i g)) k m g j = if k ≤ j ∧ j < k + m then φ j g else g j
  | 0, g, j => by rw [if_neg (by omega)]; rfl
  | m + 1, g, j => by
    show downF (fun i g => upd g i (φ i g)) k m (upd g (k + m) (φ (k + m) g)) j = _
    rw [down_get hφ k m]
    by_cases h1 : k ≤ j ∧ j < k + m
    · rw [if_pos h1, if_pos (by omega)]
      exact hφ j _ _ fun i hi => by simp [upd, show i ≠ k + m by omega]
    · rw [if_neg h1]
      by_cases h2 : j = k + m
      · subst h2; rw [if_pos (by omega)]; simp [upd]
      · rw [if_neg (by omega)]; simp [upd, h2]

theorem ysG_get (Y : Nat → Nat) (n : Nat) : ∀ (m i : Nat) (g : Nat → Nat) (j : Nat), iterF (fun i g => upd g i (Y i)) m i g j = if i ≤ j ∧ j < i + m then Y j else g j
  | 0, i, g, j => by rw [if_neg (by omega)]; rfl
  | m + 1, i, g, j => by
    show iterF (fun i g => upd g i (Y i)) m (i + 1) (upd g i (Y i)) j = _
    rw [ysG_get Y n m]
    by_cases h1 : j = i
    · subst h1; rw [if_neg (by omega), if_pos (by omega)]; simp [upd]
    · by_cases h2 : i + 1 ≤ j ∧ j < i + 1 + m
      · rw [if_pos h2, if_pos (by omega)]
      · rw [if_neg h2, if_neg (by omega)]; simp [upd, h1]

theorem pass_get (X : Nat → Nat) (n k : Nat) (g : Nat → Nat) (j : Nat) (hk : k ≤ n) : ddPass X n k g j = if k ≤ j ∧ j < n then mulN (difN (g j) (g (j - 1))) (invN (difN (X j) (X (j - k)))) else g j := by
  have := down_get (φ := fun i g => mulN (difN (g i) (g (i - 1))) (invN (difN (X i) (X (i - k))))) (fun i g g' h => by
    rw [h i (Nat.le_refl _), h (i - 1) (by omega)]) k (n - k) g j
  rw [show k + (n - k) = n by omega] at this
  exact this

theorem dd_table {X Y : Nat → Nat} (hX : LtE X) (hY : LtE Y) {n : Nat} : ∀ (k : Nat), k + 1 ≤ n → ∀ j, j < n →
    q (iterF (ddPass X n) k 1 (ysG Y n) j) = dd (fun i => q (X i)) (fun i => q (Y i)) (if j ≤ k then j else k) j
  | 0, h, j, hj => by
    have e : iterF (ddPass X n) 0 1 (ysG Y n) j = Y j := by
      show ysG Y n j = Y j
      unfold ysG
      rw [ysG_get Y n, if_pos (by omega)]
    rw [e]
    by_cases h0 : j ≤ 0
    · rw [if_pos h0, show j = 0 by omega]; rfl
    · rw [if_neg h0]; rfl
  | k + 1, h, j, hj => by
    rw [iterF_last, pass_get X n (1 + k) _ j (by omega)]
    have lt : LtE (iterF (ddPass X n) k 1 (ysG Y n)) := iterF_inv (fun i g hg => ddPass_lt hg) _ _ _ (ysG_lt hY n)
    have ih := dd_table hX hY (n := n) k (by omega)
    by_cases h1 : 1 + k ≤ j ∧ j < n
    · rw [if_pos h1, q_mul, q_inv (difN_lt _ _), q_dif _ (lt _), q_dif _ (hX _), ih j hj, ih (j - 1) (by omega), if_neg (by omega : ¬ j ≤ k)]
      have e2 : (if j - 1 ≤ k then j - 1 else k) = k := by
        by_cases e : j - 1 ≤ k
        · rw [if_pos e]; omega
        · rw [if_neg e]
      have e3 : (if j ≤ k + 1 then j else k + 1) = k + 1 := by
        by_cases e : j ≤ k + 1
        · rw [if_pos e]; omega
        · rw [if_neg e]
      rw [e2, e3, show 1 + k = k + 1 by omega]
      rfl
    · rw [if_neg h1, ih j hj, if_pos (by omega : j ≤ k), if_pos (by omega : j ≤ k + 1)]
theorem ddG_q {X Y : Nat → Nat} (hX : LtE X) (hY : LtE Y) {n : Nat} (hn : 1 ≤ n) {j : Nat} (hj : j < n) : q (ddG X Y n j) = dd (fun i => q (X i)) (fun i => q (Y i)) j j := by
  unfold ddG
  rw [dd_table hX hY (n - 1) (by omega) j hj, if_pos (by omega)]

theorem up_get (X : Nat → Nat) (k m : Nat) (g : Nat → Nat) (j : Nat) : downF (upSt X k) 1 m g j = if 1 ≤ j ∧ j < 1 + m then difN (g (j - 1)) (mulN (g j) (X k)) else g j :=
  down_get (φ := fun i g => difN (g (i - 1)) (mulN (g i) (X k))) (fun i g g' h => by
    rw [h i (Nat.le_refl _), h (i - 1) (by omega)]) 1 m g j
theorem out_ev {X D : Nat → Nat} (hX : LtE X) (hD : LtE D) {n k : Nat} {g : Nat → Nat} (hg : LtE g) (hn : 1 ≤ n) (htop : g (n - 1) = 0) (x : Q) :
    ev n (fun j => q (outSt X D n k g j)) x = q (D k) + (x - q (X k)) * ev n (fun j => q (g j)) x := by
  obtain ⟨m, rfl⟩ : ∃ m, n = m + 1 := ⟨n - 1, by omega⟩
  have hm : m + 1 - 1 = m := by omega
  rw [hm] at htop
  have e0 : outSt X D (m + 1) k g 0 = difN (D k) (mulN (g 0) (X k)) := by
    unfold outSt
    rw [hm, up_get, if_neg (by omega)]; simp [upd]
  have e1 : ∀ j, j < m → outSt X D (m + 1) k g (j + 1) = difN (g j) (mulN (g (j + 1)) (X k)) := fun j hj => by
    unfold outSt
    rw [hm]
    simp only [upd, Nat.succ_ne_zero, if_false]
    rw [up_get, if_pos (by omega)]
    simp
  have l1 : ev (m + 1) (fun j => q (outSt X D (m + 1) k g j)) x = q (outSt X D (m + 1) k g 0) + x * ev m (fun j => q (outSt X D (m + 1) k g (j + 1))) x := rfl
  have l2 : ev (m + 1) (fun j => q (g j)) x = q (g 0) + x * ev m (fun j => q (g (j + 1))) x := rfl
  have l3 : ev (m + 1) (fun j => q (g j)) x = ev m (fun j => q (g j)) x := by
    rw [ev_snoc]; simp only [htop, q_zero]; grind
  have l4 : ev m (fun j => q (outSt X D (m + 1) k g (j + 1))) x = ev m (fun j => q (g j)) x - q (X k) * ev m (fun j => q (g (j + 1))) x := by
    rw [← ev_smul, ← ev_sub]
    exact ev_congr fun j hj => by
      rw [e1 j hj, q_dif _ (mulN_lt _ _), q_mul]; grind
  rw [l1, e0, l4, q_dif _ (mulN_lt _ _), q_mul]
  rw [l3] at l2
  rw [l3]; grind
theorem outs_ev {X D : Nat → Nat} (hX : LtE X) (hD : LtE D) {n : Nat} (hn : 1 ≤ n) (x : Q) : ∀ (m k : Nat), k + m = n → ∃ g, LtE g ∧ (∀ j, n - k ≤ j → g j = 0) ∧
    ev n (fun j => q (g j)) x = nest (fun i => q (X i)) (fun i => q (D i)) k m x ∧ downF (outSt X D n) 0 n (fun _ => 0) = downF (outSt X D n) 0 k g
  | 0, k, h => ⟨fun _ => 0, ltE_zero, fun _ _ => rfl, by rw [show (fun (j : Nat) => q 0) = fun _ => (0 : Q) from rfl, ev_zero]; rfl, by rw [show k = n by omega]⟩
  | m + 1, k, h => by
    obtain ⟨g, g1, g2, g3, g4⟩ := outs_ev hX hD hn x m (k + 1) (by omega)
    refine ⟨outSt X D n k g, outSt_lt g1, ?_, ?_, ?_⟩
    · intro j hj
      unfold outSt
      have hj0 : j ≠ 0 := by omega
      simp only [upd, hj0, if_false]
      rw [up_get]
      by_cases hlt : 1 ≤ j ∧ j < 1 + (n - 1)
      · rw [if_pos hlt, g2 j (by omega), g2 (j - 1) (by omega), zero_mulN]
        unfold difN
        rw [negN_def, Nat.sub_zero, Nat.mod_self, addN_zero ell_pos]
      · rw [if_neg hlt]; exact g2 j (by omega)
    · rw [out_ev hX hD g1 hn (g2 _ (by omega)), g3]
      rfl
    · rw [g4]
      show downF (outSt X D n) 0 k (outSt X D n (0 + k) g) = _
      rw [Nat.zero_add]
theorem newt_ev {X Y : Nat → Nat} (hX : LtE X) (hY : LtE Y) {n : Nat} (hn : 1 ≤ n) (hd : ∀ i j, i < j → j < n → X i ≠ X j) (x : Q) :
    ev n (fun j => q (newtG X Y n j)) x = nev (fun i => q (X i)) (fun i => q (Y i)) 0 (n - 1) x := by
  obtain ⟨g, g1, g2, g3, g4⟩ := outs_ev hX (ddG_lt (X := X) hY n) hn x n 0 (by omega)
  have e : newtG X Y n = g := g4
  rw [e, g3]
  obtain ⟨m, rfl⟩ : ∃ m, n = m + 1 := ⟨n - 1, by omega⟩
  have hq : ∀ i j, i < j → j ≤ m → q (X i) ≠ q (X j) := fun i j h1 h2 => q_ne (hX i) (hX j) (hd i j h1 (by omega))
  rw [show m + 1 - 1 = m by omega, ← nest_nev _ _ x m hq]
  
  have hc : ∀ (m' k : Nat), k + m' ≤ m + 1 → nest (fun i => q (X i)) (fun i => q (ddG X Y (m + 1) i)) k m' x = nest (fun i => q (X i)) (fun k => dd (fun i => q (X i)) (fun i => q (Y i)) k k) k m' x := by
    intro m'
    induction m' with
    | zero => intro k _; rfl
    | succ m' ih =>
      intro k hk
      show q (ddG X Y (m + 1) k) + (x - q (X k)) * nest _ _ (k + 1) m' x = dd _ _ k k + (x - q (X k)) * nest _ _ (k + 1) m' x
      rw [ih (k + 1) (by omega), ddG_q hX hY (by omega) (show k < m + 1 by omega)]
  exact hc (m + 1) 0 (by omega)
theorem newt_at {X Y : Nat → Nat} (hX : LtE X) (hY : LtE Y) {n : Nat} (hn : 1 ≤ n) (hd : ∀ i j, i < j → j < n → X i ≠ X j) {i : Nat} (hi : i < n) :
    ev n (fun j => q (newtG X Y n j)) (q (X i)) = q (Y i) := by
  rw [newt_ev hX hY hn hd]
  exact nev_at (fun i => q (X i)) (fun i => q (Y i)) (n - 1) 0 i (by omega) (by omega) fun a b _ h2 h3 => q_ne (hX a) (hX b) (hd a b h2 (by omega))

theorem times_ev {p : Nat → Nat} {a : Nat} (hp : LtE p) (m : Nat) (x : Q) : ∀ (j : Nat), j ≤ m → LtE (iterF (timesSt p a) j 0 (fun _ => 0)) ∧ (∀ i, j < i → iterF (timesSt p a) j 0 (fun _ => 0) i = 0) ∧
    ev (m + 1) (fun i => q (iterF (timesSt p a) j 0 (fun _ => 0) i)) x = (x - q a) * ev j (fun i => q (p i)) x
  | 0, _ => ⟨ltE_zero, fun _ _ => rfl, by rw [show (fun i => q (iterF (timesSt p a) 0 0 (fun _ => 0) i)) = fun _ => (0 : Q) from rfl, ev_zero]; show 0 = (x - q a) * 0; grind⟩
  | j + 1, h => by
    obtain ⟨h1, h2, h3⟩ := times_ev (a := a) hp m x j (by omega)
    have e0 : iterF (timesSt p a) (j + 1) 0 (fun _ => 0) = timesSt p a j (iterF (timesSt p a) j 0 (fun _ => 0)) := by rw [iterF_last, Nat.zero_add]
    rw [e0]
    generalize iterF (timesSt p a) j 0 (fun _ => 0) = g at *
    refine ⟨timesSt_lt h1, ?_, ?_⟩
    · intro i hi
      unfold timesSt
      simp only [upd, show i ≠ j by omega, show i ≠ j + 1 by omega, if_false]
      exact h2 i (by omega)
    · unfold timesSt
      have g1lt : LtE (upd g (j + 1) (addN (g (j + 1)) (p j))) := h1.upd (addN_lt _ _) _
      rw [ev_upd _ j _ x (m + 1) (by omega), ev_upd _ (j + 1) _ x (m + 1) (by omega), h3, ev_snoc, q_dif _ (mulN_lt _ _), q_mul, q_add]
      have e1 : pw x (j + 1) = x * pw x j := rfl
      rw [e1]; grind
theorem timesG_ev {p : Nat → Nat} {a m : Nat} (hp : LtE p) (x : Q) : ev (m + 1) (fun i => q (timesG p a m i)) x = (x - q a) * ev m (fun i => q (p i)) x :=
  (times_ev hp m x m (Nat.le_refl _)).2.2

noncomputable def prx (X : Nat → Q) (i : Nat) (x : Q) : Nat → Nat → Q
  | 0, _ => 1
  | j + 1, k => (if k = i then 1 else x - X k) * prx X i x j (k + 1)
theorem bas_ev {X : Nat → Nat} (hX : LtE X) (i : Nat) (x : Q) : ∀ (j k : Nat) (s : PB), PBOk s →
    ev (iterF (coefIn X i) j k s).m (fun t => q ((iterF (coefIn X i) j k s).p t)) x = ev s.m (fun t => q (s.p t)) x * prx (fun i => q (X i)) i x j k ∧
    q (iterF (coefIn X i) j k s).b = q s.b * prx (fun i => q (X i)) i (q (X i)) j k
  | 0, k, s, _ => by
    have e : ∀ y, prx (fun i => q (X i)) i y 0 k = 1 := fun _ => rfl
    rw [e, e]
    have e2 : iterF (coefIn X i) 0 k s = s := rfl
    rw [e2]; constructor <;> grind
  | j + 1, k, s, hs => by
    obtain ⟨h1, h2⟩ := bas_ev hX i x j (k + 1) (coefIn X i k s) (coefIn_ok hs)
    have e : ∀ y, prx (fun i => q (X i)) i y (j + 1) k = (if k = i then 1 else y - q (X k)) * prx (fun i => q (X i)) i y j (k + 1) := fun _ => rfl
    have e2 : iterF (coefIn X i) (j + 1) k s = iterF (coefIn X i) j (k + 1) (coefIn X i k s) := rfl
    rw [e2, h1, h2, e, e]
    by_cases hk : k = i
    · have e3 : coefIn X i k s = s := by unfold coefIn; rw [if_pos hk]
      rw [e3, if_pos hk, if_pos hk]; constructor <;> grind
    · have e3 : coefIn X i k s = ⟨timesG s.p (X k) s.m, s.m + 1, mulN s.b (difN (X i) (X k))⟩ := by unfold coefIn; rw [if_neg hk]
      rw [e3, if_neg hk, if_neg hk]
      show ev (s.m + 1) (fun t => q (timesG s.p (X k) s.m t)) x * _ = _ ∧ q (mulN s.b (difN (X i) (X k))) * _ = _
      rw [timesG_ev hs.p, q_mul, q_dif _ (hX k)]; constructor <;> grind
theorem onePB_ev (x : Q) : ev onePB.m (fun t => q (onePB.p t)) x = 1 := by
  show ev 1 (fun t => q (if t = 0 then 1 else 0)) x = 1
  have e : ev 1 (fun t => q (if t = 0 then 1 else 0)) x = q 1 + x * 0 := rfl
  rw [e, q_one]; grind
theorem prx_zero {X : Nat → Q} {i l : Nat} (hl : l ≠ i) : ∀ (j k : Nat), k ≤ l → l < k + j → prx X i (X l) j k = 0
  | 0, k, h1, h2 => by omega
  | j + 1, k, h1, h2 => by
    have e : prx X i (X l) (j + 1) k = (if k = i then 1 else X l - X k) * prx X i (X l) j (k + 1) := rfl
    rw [e]
    by_cases hk : k = l
    · rw [if_neg (by omega), hk]; grind
    · rw [prx_zero hl j (k + 1) (by omega) (by omega)]; grind
theorem prx_ne {X : Nat → Q} {i : Nat} : ∀ (j k : Nat), (∀ l, k ≤ l → l < k + j → l ≠ i → X i ≠ X l) → prx X i (X i) j k ≠ 0
  | 0, k, _ => by
    show (1 : Q) ≠ 0
    intro h
    have := q_inj one_lt_ell ell_pos (by rw [q_one, q_zero]; exact h)
    omega
  | j + 1, k, h => by
    have e : prx X i (X i) (j + 1) k = (if k = i then 1 else X i - X k) * prx X i (X i) j (k + 1) := rfl
    have ih := prx_ne j (k + 1) fun l h1 h2 h3 => h l (by omega) (by omega) h3
    rw [e]
    intro h0
    rcases no_zero h0 with h1 | h1
    · by_cases hk : k = i
      · rw [if_pos hk] at h1
        have := q_inj one_lt_ell ell_pos (by rw [q_one, q_zero]; exact h1)
        omega
      · rw [if_neg hk] at h1
        exact sub_ne (h k (by omega) (by omega) hk) h1
    · exact ih h1
theorem add_ev {f0 : Nat} {p : Nat → Nat} (hp : LtE p) (n : Nat) (x : Q) : ∀ (j k : Nat) (g : Nat → Nat), k + j ≤ n → LtE g →
    ev n (fun i => q (iterF (addSt f0 p) j k g i)) x = ev n (fun i => q (g i)) x + q f0 * (ev (k + j) (fun i => q (p i)) x - ev k (fun i => q (p i)) x)
  | 0, k, g, _, _ => by
    show ev n (fun i => q (g i)) x = _
    rw [Nat.add_zero]; grind
  | j + 1, k, g, h, hg => by
    have e : iterF (addSt f0 p) (j + 1) k g = iterF (addSt f0 p) j (k + 1) (addSt f0 p k g) := rfl
    rw [e, add_ev hp n x j (k + 1) (addSt f0 p k g) (by omega) (hg.upd (addN_lt _ _) _)]
    unfold addSt
    rw [ev_upd g k _ x n (by omega), q_add, q_mul, ev_snoc k (fun i => q (p i)) x, show k + 1 + j = k + (j + 1) by omega]; grind
theorem coefSt_ev {X Y : Nat → Nat} (hX : LtE X) (hY : LtE Y) {n i : Nat} (hi : i < n) {g : Nat → Nat} (hg : LtE g) (x : Q) :
    ev n (fun j => q (coefSt X Y n i g j)) x = ev n (fun j => q (g j)) x + q (Y i) * qi (prx (fun i => q (X i)) i (q (X i)) n 0) * prx (fun i => q (X i)) i x n 0 := by
  unfold coefSt
  have hok := basPB_ok X i n
  obtain ⟨b1, b2⟩ := bas_ev hX i x n 0 onePB onePB_ok
  have hm := basPB_m X hi
  rw [add_ev hok.p n x n 0 g (by omega) hg, q_mul, q_inv hok.b, Nat.zero_add]
  have e1 : ev n (fun i_1 => q ((basPB X i n).p i_1)) x = prx (fun i => q (X i)) i x n 0 := by
    have := b1
    rw [onePB_ev] at this
    rw [show iterF (coefIn X i) n 0 onePB = basPB X i n from rfl, hm] at this
    rw [this]; grind
  have e2 : q (basPB X i n).b = prx (fun i => q (X i)) i (q (X i)) n 0 := by
    rw [show iterF (coefIn X i) n 0 onePB = basPB X i n from rfl] at b2
    rw [b2, show onePB.b = 1 from rfl, q_one]; grind
  have e3 : ev 0 (fun i_1 => q ((basPB X i n).p i_1)) x = 0 := rfl
  rw [e1, e2, e3]; grind
theorem coef_at {X Y : Nat → Nat} (hX : LtE X) (hY : LtE Y) {n l : Nat} (hl : l < n) (hd : ∀ i j, i < j → j < n → X i ≠ X j) : ∀ (j i : Nat) (g : Nat → Nat), i + j = n → LtE g →
    ev n (fun t => q (iterF (coefSt X Y n) j i g t)) (q (X l)) = ev n (fun t => q (g t)) (q (X l)) + (if i ≤ l then q (Y l) else 0)
  | 0, i, g, h, _ => by
    rw [if_neg (by omega)]
    show ev n (fun t => q (g t)) (q (X l)) = _
    grind
  | j + 1, i, g, h, hg => by
    have e : iterF (coefSt X Y n) (j + 1) i g = iterF (coefSt X Y n) j (i + 1) (coefSt X Y n i g) := rfl
    rw [e, coef_at hX hY hl hd j (i + 1) _ (by omega) (coefSt_lt hg), coefSt_ev hX hY (by omega) hg]
    by_cases hil : i = l
    · subst hil
      have hne : prx (fun i => q (X i)) i (q (X i)) n 0 ≠ 0 := prx_ne (X := fun i => q (X i)) n 0 fun l h1 h2 h3 => by
        rcases Nat.lt_or_gt_of_ne h3 with h4 | h4
        · exact (q_ne (hX l) (hX i) (hd l i h4 hl)).symm
        · exact q_ne (hX i) (hX l) (hd i l h4 (by omega))
      have := qi_mul hne
      rw [if_neg (by omega), if_pos (by omega)]; grind
    · have hz : prx (fun i => q (X i)) i (q (X l)) n 0 = 0 := prx_zero (X := fun i => q (X i)) (fun e => hil e.symm) n 0 (by omega) (by omega)
      rw [hz]
      by_cases h1 : i + 1 ≤ l
      · rw [if_pos h1, if_pos (by omega)]; grind
      · rw [if_neg h1, if_neg (by omega)]; grind
theorem coefG_at {X Y : Nat → Nat} (hX : LtE X) (hY : LtE Y) {n l : Nat} (hl : l < n) (hd : ∀ i j, i < j → j < n → X i ≠ X j) : ev n (fun t => q (coefG X Y n t)) (q (X l)) = q (Y l) := by
  unfold coefG
  rw [coef_at hX hY hl hd n 0 _ (by omega) ltE_zero, if_pos (by omega), show (fun t => q ((fun _ => 0) t)) = fun (_ : Nat) => (0 : Q) from rfl, ev_zero]; grind
theorem newt_coef {X Y : Nat → Nat} (hX : LtE X) (hY : LtE Y) {n : Nat} (hn : 1 ≤ n) (hd : ∀ i j, i < j → j < n → X i ≠ X j) : ∀ i, i < n → newtG X Y n i = coefG X Y n i := fun i hi => by
  have := unique (n := n) (c := fun j => q (newtG X Y n j)) (d := fun j => q (coefG X Y n j)) (r := fun i => q (X i)) (fun l hl => by rw [newt_at hX hY hn hd hl, coefG_at hX hY hl hd]) (fun a b h1 h2 => q_ne (hX a) (hX b) (hd a b h1 h2)) i hi
  exact q_inj (newtG_lt X Y n i) (coefG_lt X Y n i) this
end Go.Proofs.Ytogcijgklnfjjaa

namespace Go.Proofs.Ytogcijgklnfjjaa
open Go Go.Eng
set_option maxRecDepth 100000
set_option linter.unusedVariables false

theorem dupAll_congr {k k' : Nat → List Int} {n : Nat} (h : ∀ i, i < n → k i = k' i) : dupAll k n 0 = dupAll k' n 0 := by
  rw [Bool.eq_iff_iff, dupAll_iff, dupAll_iff]
  constructor <;> rintro ⟨a, b, h1, h2, h3, h4⟩ <;> refine ⟨a, b, h1, h2, h3, ?_⟩
  · rw [← h a (by omega), ← h b (by omega)]; exact h4
  · rw [h a (by omega), h b (by omega)]; exact h4
theorem take_el {p : List Int} {t e w : Nat} (h : e + w ≤ t) : List.take w (List.drop e (List.take t p)) = List.take w (List.drop e p) := by
  rw [List.drop_take, List.take_take, Nat.min_eq_left (by omega)]
theorem take_ptX {p : List Int} {t i : Nat} (h : i < t) : ptX (p.take (t * 64)) i = ptX p i := take_el (by omega)
theorem take_ptY {p : List Int} {t i : Nat} (h : i < t) : ptY (p.take (t * 64)) i = ptY p i := take_el (by omega)
theorem take_okP {p : List Int} (hp : okP p = true) (t : Nat) : okP (p.take (t * 64)) = true := by
  have hn := okP_n hp
  unfold okP at hp ⊢
  simp only [Bool.and_eq_true] at hp ⊢
  refine ⟨⟨?_, ?_⟩, ?_⟩
  · rw [List.length_take]
    have : min (t * 64) p.length % 64 = 0 := by
      rcases Nat.le_total (t * 64) p.length with h | h
      · rw [Nat.min_eq_left h]; omega
      · rw [Nat.min_eq_right h]; omega
    rw [this]; rfl
  · rw [List.length_take]; exact Nat.ble_eq_true_of_le (by omega)
  · rw [List.all_eq_true] at hp ⊢
    exact fun b hb => hp.2 b (List.mem_of_mem_take hb)
theorem take_div {p : List Int} {t : Nat} (h : t ≤ p.length / 64) : (p.take (t * 64)).length / 64 = t := by rw [List.length_take, Nat.min_eq_left (by omega)]; omega
theorem dups_neq {p : List Int} (h : dupsP p = false) : ∀ i j, i < j → j < p.length / 64 → pX p i ≠ pX p j := fun i j h1 h2 e => by
  have : dupsP p = true := dupAll_iff.2 ⟨i, j, h1, by omega, by omega, by unfold keyP; rw [e]⟩
  rw [h] at this; cases this
theorem dups_take {p : List Int} {t : Nat} (h : t ≤ p.length / 64) (hd : dupsP p = false) : dupsP (p.take (t * 64)) = false := by
  have hne := dups_neq hd
  cases hq : dupsP (p.take (t * 64)) with
  | false => rfl
  | true =>
    obtain ⟨a, b, h1, _, h3, h4⟩ := dupAll_iff.1 hq
    rw [take_div h, Nat.zero_add] at h3
    unfold keyP pX at h4
    rw [take_ptX (show a < t by omega), take_ptX h3] at h4
    exact absurd (sN_inj1 (vS_lt _) (vS_lt _) h4) (hne a b h1 (by omega))
theorem newt_arr {p : List Int} {t : Nat} (h1 : 1 ≤ t) (ht : t ≤ p.length / 64) (hd : dupsP p = false) :
    arrN (newtG (pX (p.take (t * 64))) (pY (p.take (t * 64))) t) t = arrN (coefG (pX p) (pY p) t) t := by
  have hne := dups_neq (dups_take ht hd)
  rw [take_div ht] at hne
  rw [arr_congr (newt_coef (pX_lt _) (pY_lt _) h1 hne), coefG_congr (X' := pX p) (Y' := pY p) (fun j hj => by unfold pX; rw [take_ptX hj]) (fun j hj => by unfold pY; rw [take_ptY hj])]

noncomputable def onG (p : List Int) (c : List Int) : Nat → Nat → Bool
  | 0, _ => true
  | j + 1, i => decide (evN c (pX p i) = pY p i) && onG p c j (i + 1)
noncomputable def togB (p : List Int) (t : Nat) : Bool := onG p (arrN (coefG (pX p) (pY p) t) t) (p.length / 64 - t) t
theorem f47_loop {R : Type} {N : Nat} (K : Bool → Option R) {p c : List Int} {n t : Nat} (hp : okP p = true) (hc : okF c = true) (hn : p.length / 64 = n) (hb : n ≤ 2000000) (ht : t ≤ n) :
    ∀ j i : Nat, i + j = n - t → ∀ fuel, j < fuel → f47_0_lp N (fun w _ _ _ _ _ _ _ _ _ _ => K w) (fun _ _ _ _ _ _ _ => K true) fuel (t : Int) ((n - t : Nat) : Int) ((n - t : Nat) : Int) (i : Int) p c = K (onG p c j (t + i)) := by
  intro j
  induction j with
  | zero =>
    intro i h fuel hf
    obtain ⟨f, rfl⟩ : ∃ f, fuel = f + 1 := ⟨fuel - 1, by omega⟩
    show f47_0_st N (f47_0_lp N _ _ f) _ _ _ _ _ _ _ _ = _
    unfold f47_0_st
    rw [ltF (by omega), cond_false]; rfl
  | succ j ih =>
    intro i h fuel hf
    obtain ⟨f, rfl⟩ : ∃ f, fuel = f + 1 := ⟨fuel - 1, by omega⟩
    show f47_0_st N (f47_0_lp N _ _ f) _ _ _ _ _ _ _ _ = _
    unfold f47_0_st
    have e1 : List.take 32 (List.drop ((Int.toNat (t : Int) + Int.toNat (i : Int)) * 64 + 0) p) = ptX p (t + i) := rfl
    have e2 : List.take 32 (List.drop ((Int.toNat (t : Int) + Int.toNat (i : Int)) * 64 + (0 + 32)) p) = ptY p (t + i) := rfl
    have hz : okB (List.replicate 32 (0 : Int)) = true := by rw [b_zero']; exact okB_sN 0
    have hk2 : addN (vS (ptY p (t + i))) (vS (List.replicate 32 (0 : Int))) = pY p (t + i) := by
      rw [b_zero', vS_sN ell_pos, addN_zero (vS_lt _)]; rfl
    have hnn : nI (Int.toNat ((n - t : Nat) : Int)) = ((n - t : Nat) : Int) := rfl
    have hdec : decide (sN (evN c (vS (ptX p (t + i)))) = sN (pY p (t + i))) = decide (evN c (pX p (t + i)) = pY p (t + i)) := by
      rw [decide_eq_decide]
      exact ⟨fun h => sN_inj1 (evN_lt _ _) (pY_lt p _) h, fun h => congrArg sN h⟩
    dsimp only
    rw [ltT (show i < n - t by omega), ge0, hnn, ltT (show i < n - t by omega), e1, e2, hc, okP_x hp (by omega), okP_y hp (by omega), hz, hk2, hdec, wAdd (by omega)]
    simp only [Bool.and_self, cond_true]
    show _ = K (decide (evN c (pX p (t + i)) = pY p (t + i)) && onG p c j (t + i + 1))
    cases decide (evN c (pX p (t + i)) = pY p (t + i)) with
    | false => rfl
    | true =>
      rw [Bool.not_true, cond_false, Bool.true_and]
      exact ih (i + 1) (by omega) f (by omega)
noncomputable def I47 : (R : Type) → List DV → (List DV → Option R) → Option R := fun _ ds k => match ds with
  | [.lst (.mix l) 64 p, .v (.one (.int .i64 t))] => match cksEq l ck32 with
    | true => bif okP p && (!(dupsP p) && (decide (1 ≤ t) && (decide (t ≤ 255) && Nat.ble (p.length / 64) 2000000))) then k [.v (.one (.bool (bif Nat.ble (p.length / 64) t.toNat then true else togB p t.toNat)))] else none
    | false => none
  | _ => none
theorem c47 : Contract Try.prog 47 { sig := S47, impl := I47 } := by
  refine Contract.refine fun R ds k r h => ?_
  unfold I47 at h
  split at h
  · rename_i l p t
    refine ⟨_, f47_contract (p.length / 64 + 2) GT4_ok, ?_⟩
    split at h
    · rename_i hl
      have hl := cksEq_iff.1 hl
      subst hl
      cases hc : okP p && (!(dupsP p) && (decide (1 ≤ t) && (decide (t ≤ 255) && Nat.ble (p.length / 64) 2000000))) with
      | false => rw [hc] at h; cases h
      | true =>
        rw [hc, cond_true] at h
        simp only [Bool.and_eq_true, Bool.not_eq_true', decide_eq_true_eq] at hc
        obtain ⟨h1, h2, h3, h4, h5⟩ := hc
        have h5 := Nat.le_of_ble_eq_true h5
        obtain ⟨m, rfl⟩ : ∃ m : Nat, t = (m : Int) := ⟨t.toNat, by omega⟩
        rw [Int.toNat_natCast] at h
        show call (E47 (p.length / 64 + 2)) S47 38 B47 R47 [DV.lst (RK.mix ck32) 64 p, .v (.one (.int .i64 (m : Int)))] k = some r
        rw [f47_raw_eq]
        unfold f47_raw
        rw [rows64]
        have r0 : rowLen 64 p = p.length / 64 := rfl
        generalize hn : p.length / 64 = n at *
        by_cases hmn : n ≤ m
        · rw [Nat.ble_eq_true_of_le hmn, cond_true] at h
          rw [decide_eq_true (show (m : Int) ≥ (n : Int) by omega), cond_true]
          exact h
        · rw [show Nat.ble n m = false by cases hb : Nat.ble n m with | false => rfl | true => exact absurd (Nat.le_of_ble_eq_true hb) hmn, cond_false] at h
          rw [decide_eq_false (show ¬ (m : Int) ≥ (n : Int) by omega), cond_false, r0]
          have e1 : hiOk (some (m : Int)) n = true := by
            show (decide ((0 : Int) ≤ (m : Int)) && decide ((m : Int) ≤ (n : Int))) = true
            rw [decide_eq_true (by omega), decide_eq_true (by omega)]; rfl
          have e2 : loOk (some (m : Int)) (hiInt none n) = true := by
            show (decide ((0 : Int) ≤ (m : Int)) && decide ((m : Int) ≤ (n : Int))) = true
            rw [decide_eq_true (by omega), decide_eq_true (by omega)]; rfl
          have e3 : Go.Eng.sub p (Off.el 0 64 0) (Go.Eng.subN (hiNat (some (m : Int)) n) none * 64) = p.take (m * 64) := by
            show (p.drop (0 * 64 + 0)).take (Int.toNat (m : Int) * 64) = _
            rfl
          have e4 : badP (p.take (m * 64)) = false := by
            unfold badP
            rw [take_div (by omega), decide_eq_false (by omega), decide_eq_false (by omega)]; rfl
          have e5 : Go.Eng.subN (hiNat none n) (some (m : Int)) = n - m := rfl
          rw [e1, cond_true]
          dsimp only
          rw [e3, take_okP h1 m, e4, dups_take (by omega) h2, e2, e5, take_div (by omega), newt_arr (by omega) (by omega) h2]
          simp only [cond_true, cond_false]
          have := f47_loop (N := n + 2) (fun w => k [DV.v (SV.one (At.bool w))]) h1 (arr_okF (f := coefG (pX p) (pY p) m) (n := m) (by omega)) hn h5 (show m ≤ n by omega) (n - m) 0 (by omega) (n + 2) (by omega)
          unfold togB at h
          rw [hn] at h
          exact this.trans h
    · cases h
  · cases h

noncomputable def valG (X Y : Nat → Nat) (v n : Nat) : Nat → Nat
  | 0 => 0
  | i + 1 => addN (valG X Y v n i) (mulN (basG X v n i) (Y i))
theorem blk_el {g : Nat → List Int} {n : Nat} (h : ∀ i, i < n → (g i).length = 32) : ∀ m, m ≤ n → (headG g m).length = m * 32 ∧ ∀ i, i < m → elF (headG g m) i = g i
  | 0, _ => ⟨rfl, fun i hi => by omega⟩
  | m + 1, hm => by
    obtain ⟨h1, h2⟩ := blk_el h m (by omega)
    have hl : (headG g (m + 1)).length = (m + 1) * 32 := by
      show (headG g m ++ g m).length = _
      rw [List.length_append, h1, h m (by omega)]; omega
    refine ⟨hl, fun i hi => ?_⟩
    show List.take 32 (List.drop (i * 32) (headG g m ++ g m)) = g i
    by_cases e : i = m
    · subst e
      rw [List.drop_left' h1, List.take_of_length_le (by rw [h i (by omega)]; omega)]
    · have := h2 i (by omega)
      unfold elF at this
      rw [List.drop_append_of_le_length (by omega), List.take_append_of_le_length (by rw [List.length_drop]; omega)]
      exact this
theorem blk_okF {g : Nat → List Int} {n : Nat} (h : ∀ i, i < n → okB (g i) = true) (hb : n * 32 ≤ 1073741824) : okF (headG g n) = true := by
  have hl := (blk_el (g := g) (n := n) (fun i hi => okB_len' (h i hi)) n (Nat.le_refl _)).1
  unfold okF
  rw [Bool.and_eq_true, Bool.and_eq_true]
  refine ⟨⟨?_, ?_⟩, ?_⟩
  · rw [hl, show n * 32 % 32 = 0 by omega]; rfl
  · rw [hl]; exact Nat.ble_eq ▸ hb
  · rw [List.all_eq_true]
    clear hl hb
    induction n with
    | zero => intro b hb; cases hb
    | succ n ih =>
      intro b hb
      have hb : b ∈ headG g n ++ g n := hb
      rcases List.mem_append.1 hb with hb | hb
      · exact ih (fun i hi => h i (by omega)) b hb
      · have := h n (by omega)
        unfold okB at this
        rw [Bool.and_eq_true, List.all_eq_true] at this
        exact this.2 b hb
theorem f48_loop {R : Type} {N : Nat} (k1 : Bool → Int → Int → List Int → List Int → List Int → List Int → List Int → Option R) {p x z : List Int} {n : Nat} (hp : okP p = true) (hn : p.length / 64 = n) (hb : n ≤ 30000) :
    ∀ j i : Nat, i + j = n → ∀ fuel, j < fuel → f48_0_lp N k1 fuel (n : Int) (i : Int) (headG (ptX p) i) (headG (ptY p) i) p x z = k1 false (n : Int) (n : Int) (headG (ptX p) n) (headG (ptY p) n) p x z := by
  intro j
  induction j with
  | zero =>
    intro i h fuel hf
    obtain ⟨f, rfl⟩ : ∃ f, fuel = f + 1 := ⟨fuel - 1, by omega⟩
    show f48_0_st N (f48_0_lp N _ f) _ _ _ _ _ _ _ _ = _
    unfold f48_0_st
    rw [ltF (by omega), cond_false, show i = n by omega]
  | succ j ih =>
    intro i h fuel hf
    obtain ⟨f, rfl⟩ : ∃ f, fuel = f + 1 := ⟨fuel - 1, by omega⟩
    show f48_0_st N (f48_0_lp N _ f) _ _ _ _ _ _ _ _ = _
    unfold f48_0_st
    have e1 : List.take 32 (List.drop (Int.toNat (i : Int) * 64 + 0) p) = ptX p i := rfl
    have e2 : List.take 32 (List.drop (Int.toNat (i : Int) * 64 + (0 + 32)) p) = ptY p i := rfl
    have lx := okB_len' (okP_x hp (i := i) (by omega))
    have ly := okB_len' (okP_y hp (i := i) (by omega))
    have hX : ∀ i, i < n → (ptX p i).length = 32 := fun i hi => okB_len' (okP_x hp (by omega))
    have hY : ∀ i, i < n → (ptY p i).length = 32 := fun i hi => okB_len' (okP_y hp (by omega))
    have r1 : rowLen 32 (headG (ptX p) i) = i := by show (headG (ptX p) i).length / 32 = i; rw [(blk_el hX i (by omega)).1]; omega
    have r2 : rowLen 32 (headG (ptY p) i) = i := by show (headG (ptY p) i).length / 32 = i; rw [(blk_el hY i (by omega)).1]; omega
    have r3 : rowLen 32 (ptX p i) = 1 := by show (ptX p i).length / 32 = 1; rw [lx]
    have r4 : rowLen 32 (ptY p i) = 1 := by show (ptY p i).length / 32 = 1; rw [ly]
    have hle : (Nat.ble ((2 * (i + 1) + 192) * 32) big48 && Nat.ble (i + 1) big48) = true := by
      rw [Bool.and_eq_true, Nat.ble_eq, Nat.ble_eq]; unfold big48; omega
    dsimp only
    rw [ltT (show i < n by omega), rows64, hn, ge0, ltT (show i < n by omega), e1, e2, one_row lx, one_row ly, r1, r2, r3, r4, hle, wAdd (by omega)]
    simp only [Bool.and_self, cond_true]
    exact ih (i + 1) (by omega) f (by omega)
theorem dot_val {a b : List Int} {X Y : Nat → Nat} {v n : Nat} (ha : ∀ i, i < n → vS (elF a i) = basG X v n i) (hb : ∀ i, i < n → vS (elF b i) = Y i) : ∀ i, i ≤ n → dotF a b i = valG X Y v n i
  | 0, _ => rfl
  | i + 1, h => by
    unfold dotF valG
    rw [dot_val ha hb i (by omega), ha i (by omega), hb i (by omega)]
noncomputable def I48 : (R : Type) → List DV → (List DV → Option R) → Option R := fun _ ds k => match ds with
  | [.lst (.mix l) 64 p, .v (.one (.ints .u8 32 x))] => match cksEq l ck32 with
    | true => bif okP p && (okB x && (!(dupsP p) && Nat.ble (p.length / 64) 30000)) then k [.v (.one (.ints .u8 32 (sN (valG (pX p) (pY p) (vS x) (p.length / 64) (p.length / 64)))))] else none
    | false => none
  | _ => none
theorem c48 : Contract Try.prog 48 { sig := S48, impl := I48 } := by
  refine Contract.refine fun R ds k r h => ?_
  unfold I48 at h
  split at h
  · rename_i l p x
    refine ⟨_, f48_contract (p.length / 64 + 2) GT4_ok, ?_⟩
    split at h
    · rename_i hl
      have hl := cksEq_iff.1 hl
      subst hl
      cases hc : okP p && (okB x && (!(dupsP p) && Nat.ble (p.length / 64) 30000)) with
      | false => rw [hc] at h; cases h
      | true =>
        rw [hc, cond_true] at h
        simp only [Bool.and_eq_true, Bool.not_eq_true'] at hc
        obtain ⟨h1, h2, h3, h4⟩ := hc
        have h4 := Nat.le_of_ble_eq_true h4
        show call (E48 (p.length / 64 + 2)) S48 37 B48 R48 [DV.lst (RK.mix ck32) 64 p, .v (.one (.ints .u8 32 x))] k = some r
        rw [f48_raw_eq]
        unfold f48_raw
        rw [rows64]
        unfold dupsP at h3
        generalize hn : p.length / 64 = n at *
        refine (f48_loop _ h1 hn h4 n 0 (by omega) (n + 2) (by omega)).trans ?_
        have hX : ∀ i, i < n → okB (ptX p i) = true := fun i hi => okP_x h1 (by omega)
        have hY : ∀ i, i < n → okB (ptY p i) = true := fun i hi => okP_y h1 (by omega)
        obtain ⟨lx, gx⟩ := blk_el (g := ptX p) (n := n) (fun i hi => okB_len' (hX i hi)) n (Nat.le_refl _)
        obtain ⟨ly, gy⟩ := blk_el (g := ptY p) (n := n) (fun i hi => okB_len' (hY i hi)) n (Nat.le_refl _)
        have dx : (headG (ptX p) n).length / 32 = n := by omega
        have dy : (headG (ptY p) n).length / 32 = n := by omega
        have hs : sameX (headG (ptX p) n) = false := by
          unfold sameX
          rw [dx, dupAll_congr (k' := keyP p) (fun i hi => by unfold numF keyP pX; rw [gx i hi])]
          exact h3
        rw [dx, arr_div, dy, blk_okF hX (by omega), h2, hs, blk_okF hY (by omega), arr_okF (by omega), Nat.ble_eq_true_of_le h4, Nat.beq_refl]
        simp only [Bool.and_self, Bool.not_false, cond_true]
        rw [dot_val (X := pX p) (Y := pY p) (v := vS x) (n := n) (fun i hi => by
          rw [arr_elF _ hi, vS_sN (basG_lt _ _ _ _)]
          exact basG_congr (fun j hj => by unfold numF pX; rw [gx j hj]) hi) (fun i hi => by rw [gy i hi]; rfl) n (Nat.le_refl _)]
        exact h
    · cases h
  · cases h
noncomputable def I44 : (R : Type) → List DV → (List DV → Option R) → Option R := fun _ ds k => match ds with
  | [.lst (.mix c) 33 s, .v (.one (.int .i64 t)), .v (.one (.int .i64 l))] => match cksEq c ck43 with
    | true => bif okS s then (bif decide (thrE t = 0) then (bif decide (((s.length / 33 : Nat) : Int) < l) then k [.lst (.mix ck32) 64 [], .v (.one (.int .i64 8))] else k [.lst (.mix ck32) 64 (ptsS s (s.length / 33)), .v (.one (.int .i64 (idsN (idsS s (s.length / 33)))))])
        else k [.lst (.mix ck32) 64 [], .v (.one (.int .i64 (thrE t)))]) else none
    | false => none
  | _ => none
theorem c44 : Contract Try.prog 44 { sig := S44, impl := I44 } := by
  refine Contract.refine fun R ds k r h => ?_
  unfold I44 at h
  split at h
  · rename_i c s t l
    refine ⟨_, f44_contract 0 GT4_ok, ?_⟩
    split at h
    · rename_i hl
      have hl := cksEq_iff.1 hl
      subst hl
      cases hc : okS s with
      | false => rw [hc] at h; cases h
      | true =>
        rw [hc, cond_true] at h
        obtain ⟨b1, b2, b3⟩ := okS_n hc
        show call (E44 0) S44 28 B44 R44 [DV.lst (RK.mix ck43) 33 s, .v (.one (.int .i64 t)), .v (.one (.int .i64 l))] k = some r
        rw [f44_raw_eq]
        unfold f44_raw
        have hr : nI (rowLen 33 s) = ((s.length / 33 : Nat) : Int) := rfl
        rw [hr, hc, idsS_len, show Nat.ble (s.length / 33) 1073741824 = true from Nat.ble_eq_true_of_le (by omega), cond_true, cond_true]
        by_cases h0 : thrE t = 0
        · rw [decide_eq_true h0, cond_true] at h
          rw [h0, show ((0 : Int) != 0) = false from rfl, cond_false]
          exact h
        · rw [decide_eq_false h0, cond_false] at h
          rw [show (thrE t != 0) = true by simpa using h0, cond_true]
          exact h
    · cases h
  · cases h
noncomputable def GT5 : Ctx := (44, { sig := S44, impl := I44 }) :: (47, { sig := S47, impl := I47 }) :: (48, { sig := S48, impl := I48 }) :: GT4
theorem GT5_ok : CtxOk Try.prog GT5 := ctxOk_cons ok44 rfl c44 (ctxOk_cons ok47 rfl c47 (ctxOk_cons ok48 rfl c48 GT4_ok))
end Go.Proofs.Ytogcijgklnfjjaa

namespace Go.Proofs.Ytogcijgklnfjjaa
open Go Go.Eng
set_option maxRecDepth 100000
set_option linter.unusedVariables false

end Go.Proofs.Ytogcijgklnfjjaa

namespace Go.Proofs.Ytogcijgklnfjjaa
open Go Go.Eng
set_option maxRecDepth 100000
set_option linter.unusedVariables false

noncomputable def f25_raw {R : Type} (N : Nat) (s : List Int) (x : List Int) (k : List DV → Option R) : Option R :=
 bif okS s then bif (idsS s (s.length / 33)).length.ble 1073741824 then bif idsN (idsS s (s.length / 33)) != 0 then k [DV.v (SV.one (At.ints IntKind.u8 32 (List.replicate 32 0))), DV.v (SV.one (At.int IntKind.i64 (idsN (idsS s (s.length / 33)))))] else bif okP (ptsS s (s.length / 33)) && (okB x && (!dupsP (ptsS s (s.length / 33)) && ((ptsS s (s.length / 33)).length / 64).ble 30000)) then k [DV.v (SV.one (At.ints IntKind.u8 32 (sN (valG (pX (ptsS s (s.length / 33))) (pY (ptsS s (s.length / 33))) (vS x) ((ptsS s (s.length / 33)).length / 64) ((ptsS s (s.length / 33)).length / 64))))), DV.v (SV.one (At.int IntKind.i64 0))] else Option.none else Option.none else Option.none


noncomputable def E25 (N : Nat) : Env := { Θ := Th, Γ := GT5, K := K25, ν := N25, fuel := 0, lp := [] }


theorem f25_contract (N : Nat) (hΓ : CtxOk Try.prog GT5) : Contract Try.prog 25 { sig := S25, impl := fun _ ds k => call (E25 N) S25 23 B25 R25 ds k } :=
  call_contract (E := E25 N) thOk hΓ mixed ok25.look ok25.body ok25.n ok25.rv ok25.name rfl (by decide) (loopsOk_of (l := []) (by kernel_rfl) trivial)
theorem f25_raw_eq {R : Type} (N : Nat) (s : List Int) (x : List Int) (k : List DV → Option R) : call (E25 N) S25 23 B25 R25 [.lst (.mix ck43) 33 s, .v (.one (.ints .u8 32 x))] k = f25_raw N s x k := by kernel_rfl
end Go.Proofs.Ytogcijgklnfjjaa

namespace Go.Proofs.Ytogcijgklnfjjaa
open Go Go.Eng
set_option maxRecDepth 100000
set_option linter.unusedVariables false

end Go.Proofs.Ytogcijgklnfjjaa

namespace Go.Proofs.Ytogcijgklnfjjaa
open Go Go.Eng
set_option maxRecDepth 100000
set_option linter.unusedVariables false

noncomputable def f27_raw {R : Type} (N : Nat) (ids : List Int) (k : List DV → Option R) : Option R :=
 bif ids.length.ble 1073741824 then bif idsN ids != 0 then k [DV.lst (RK.one IntKind.u8) 32 [], DV.v (SV.one (At.int IntKind.i64 (idsN ids)))] else bif ids.length.ble 33554432 then bif okF (arrN (plF ids) ids.length) && (okB (List.replicate 32 0) && (((arrN (plF ids) ids.length).length / 32).ble 30000 && !sameX (arrN (plF ids) ids.length))) then k [DV.lst (RK.one IntKind.u8) 32 (arrN (basG (numF (arrN (plF ids) ids.length)) (vS (List.replicate 32 0)) ((arrN (plF ids) ids.length).length / 32)) ((arrN (plF ids) ids.length).length / 32)), DV.v (SV.one (At.int IntKind.i64 0))] else Option.none else Option.none else Option.none


noncomputable def E27 (N : Nat) : Env := { Θ := Th, Γ := GT4, K := K27, ν := N27, fuel := 0, lp := [] }


theorem f27_contract (N : Nat) (hΓ : CtxOk Try.prog GT4) : Contract Try.prog 27 { sig := S27, impl := fun _ ds k => call (E27 N) S27 14 B27 R27 ds k } :=
  call_contract (E := E27 N) thOk hΓ mixed ok27.look ok27.body ok27.n ok27.rv ok27.name rfl (by decide) (loopsOk_of (l := []) (by kernel_rfl) trivial)
theorem f27_raw_eq {R : Type} (N : Nat) (ids : List Int) (k : List DV → Option R) : call (E27 N) S27 14 B27 R27 [.lst (.one .i64) 1 ids] k = f27_raw N ids k := by kernel_rfl
end Go.Proofs.Ytogcijgklnfjjaa

namespace Go.Proofs.Ytogcijgklnfjjaa
open Go Go.Eng
set_option maxRecDepth 100000
set_option linter.unusedVariables false

noncomputable def f29_raw {R : Type} (N : Nat) (ids : List Int) (d : Int) (x : List Int) (k : List DV → Option R) : Option R :=
 bif ids.length.ble 1073741824 then bif idsN ids != 0 then k [DV.v (SV.one (At.ints IntKind.u8 32 (List.replicate 32 0))), DV.v (SV.one (At.int IntKind.i64 (idsN ids)))] else bif ids.length.ble 1073741823 then bif Decidable.decide (idxE ids d ids.length 0 < 0) then k [DV.v (SV.one (At.ints IntKind.u8 32 (List.replicate 32 0))), DV.v (SV.one (At.int IntKind.i64 92))] else bif ids.length.ble 33554432 then bif okF (arrN (plF ids) ids.length) && (okB x && (((arrN (plF ids) ids.length).length / 32).ble 30000 && !sameX (arrN (plF ids) ids.length))) then bif Decidable.decide (0 ≤ idxE ids d ids.length 0) && Decidable.decide (idxE ids d ids.length 0 < nI (rowLen 32 (arrN (basG (numF (arrN (plF ids) ids.length)) (vS x) ((arrN (plF ids) ids.length).length / 32)) ((arrN (plF ids) ids.length).length / 32)))) then k [DV.v (SV.one (At.ints IntKind.u8 32 (List.take 32 (List.drop (mulE (idxE ids d ids.length 0).toNat 32) (arrN (basG (numF (arrN (plF ids) ids.length)) (vS x) ((arrN (plF ids) ids.length).length / 32)) ((arrN (plF ids) ids.length).length / 32)))))), DV.v (SV.one (At.int IntKind.i64 0))] else Option.none else Option.none else Option.none else Option.none else Option.none


noncomputable def E29 (N : Nat) : Env := { Θ := Th, Γ := GT4, K := K29, ν := N29, fuel := 0, lp := [] }


theorem f29_contract (N : Nat) (hΓ : CtxOk Try.prog GT4) : Contract Try.prog 29 { sig := S29, impl := fun _ ds k => call (E29 N) S29 29 B29 R29 ds k } :=
  call_contract (E := E29 N) thOk hΓ mixed ok29.look ok29.body ok29.n ok29.rv ok29.name rfl (by decide) (loopsOk_of (l := []) (by kernel_rfl) trivial)
theorem f29_raw_eq {R : Type} (N : Nat) (ids : List Int) (d : Int) (x : List Int) (k : List DV → Option R) : call (E29 N) S29 29 B29 R29 [.lst (.one .i64) 1 ids, .v (.one (.int .i64 d)), .v (.one (.ints .u8 32 x))] k = f29_raw N ids d x k := by kernel_rfl
end Go.Proofs.Ytogcijgklnfjjaa

namespace Go.Proofs.Ytogcijgklnfjjaa
open Go Go.Eng
set_option maxRecDepth 100000
set_option linter.unusedVariables false

theorem pigeon : ∀ (m n : Nat) (f : Nat → Nat), (∀ i, i < n → f i < m) → (∀ i j, i < j → j < n → f i ≠ f j) → n ≤ m
  | 0, n, f, h, _ => by
    cases n with
    | zero => exact Nat.le_refl _
    | succ n => have := h 0 (by omega); omega
  | m + 1, n, f, h, hi => by
    by_cases hx : ∃ i, i < n ∧ f i = m
    · obtain ⟨i, h1, h2⟩ := hx
      have := pigeon m (n - 1) (fun j => if j = i then f (n - 1) else f j) (fun j hj => by
        split
        · rename_i e
          have := h (n - 1) (by omega)
          have := hi i (n - 1) (by omega) (by omega)
          omega
        · rename_i e
          have := h j (by omega)
          have : f j ≠ m := fun e2 => by
            rcases Nat.lt_or_gt_of_ne e with h3 | h3
            · exact hi j i h3 h1 (by omega)
            · exact hi i j h3 (by omega) (by omega)
          omega) (fun a b hab hb => by
        by_cases ea : a = i
        · rw [if_pos ea, if_neg (by omega)]
          exact (hi b (n - 1) (by omega) (by omega)).symm
        · rw [if_neg ea]
          by_cases eb : b = i
          · rw [if_pos eb]; exact hi a (n - 1) (by omega) (by omega)
          · rw [if_neg eb]; exact hi a b hab (by omega))
      omega
    · have := pigeon m n f (fun j hj => by
        have := h j hj
        have : f j ≠ m := fun e => hx ⟨j, hj, e⟩
        omega) hi
      omega
theorem idsE_ok {xs : List Int} : ∀ {j i : Nat}, idsE xs j i = 0 → (∀ k, i ≤ k → k < i + j → 1 ≤ xs.getD k 0 ∧ xs.getD k 0 ≤ 255) ∧ ∀ a b, a < b → i ≤ b → b < i + j → xs.getD a 0 ≠ xs.getD b 0
  | 0, i, _ => ⟨fun k h1 h2 => by omega, fun a b h1 h2 h3 => by omega⟩
  | j + 1, i, h => by
    unfold idsE at h
    cases h1 : decide (xs.getD i 0 < 1) || decide (xs.getD i 0 > 255) with
    | true => rw [h1, cond_true] at h; cases h
    | false =>
      rw [h1, cond_false] at h
      cases h2 : dupF xs i i 0 with
      | true => rw [h2, cond_true] at h; cases h
      | false =>
        rw [h2, cond_false] at h
        obtain ⟨g1, g2⟩ := idsE_ok h
        rw [Bool.or_eq_false_iff] at h1
        have a1 := of_decide_eq_false h1.1
        have a2 := of_decide_eq_false h1.2
        refine ⟨fun k k1 k2 => ?_, fun a b b1 b2 b3 => ?_⟩
        · by_cases e : k = i
          · subst e; omega
          · exact g1 k (by omega) (by omega)
        · by_cases e : b = i
          · subst e
            intro e2
            have : dupF xs b b 0 = true := dupF_iff.2 ⟨a, by omega, by omega, e2⟩
            rw [h2] at this; cases this
          · exact g2 a b b1 (by omega) (by omega)
structure IdsOk (xs : List Int) : Prop where
  pos : 1 ≤ xs.length
  le : xs.length ≤ 255
  rng : ∀ k, k < xs.length → 1 ≤ xs.getD k 0 ∧ xs.getD k 0 ≤ 255
  ne : ∀ a b, a < b → b < xs.length → xs.getD a 0 ≠ xs.getD b 0
theorem ids_ok {xs : List Int} (h : idsN xs = 0) : IdsOk xs := by
  unfold idsN at h
  cases h0 : Nat.beq xs.length 0 with
  | true => rw [h0, cond_true] at h; cases h
  | false =>
    rw [h0, cond_false] at h
    obtain ⟨g1, g2⟩ := idsE_ok h
    have hp : 1 ≤ xs.length := by
      cases hl : xs.length with
      | zero => rw [hl] at h0; cases h0
      | succ n => omega
    have hr : ∀ k, k < xs.length → 1 ≤ xs.getD k 0 ∧ xs.getD k 0 ≤ 255 := fun k hk => g1 k (by omega) (by omega)
    have hn : ∀ a b, a < b → b < xs.length → xs.getD a 0 ≠ xs.getD b 0 := fun a b h1 h2 => g2 a b h1 (by omega) (by omega)
    refine ⟨hp, ?_, hr, hn⟩
    exact pigeon 255 xs.length (fun i => (xs.getD i 0 - 1).toNat) (fun i hi => by have := hr i hi; omega) (fun a b h1 h2 => by
      have := hr a (by omega)
      have := hr b h2
      have := hn a b h1 h2
      omega)
theorem plN_id {x : Int} (h1 : 1 ≤ x) (h2 : x ≤ 255) : plN x = x.toNat := by
  unfold plN IntKind.wrap
  simp only [IntKind.bits, IntKind.signed, Bool.false_and, Bool.false_eq_true, if_false, show (2 : Int) ^ 64 = 18446744073709551616 by decide]
  omega
theorem IdsOk.pl {xs : List Int} (h : IdsOk xs) : ∀ i j, i < j → j < xs.length → plF xs i ≠ plF xs j := fun i j h1 h2 => by
  have a1 := h.rng i (by omega)
  have a2 := h.rng j h2
  have a3 := h.ne i j h1 h2
  unfold plF
  rw [plN_id a1.1 a1.2, plN_id a2.1 a2.2]; omega
theorem pts_x {s : List Int} (hs : okS s = true) {i : Nat} (h : i < s.length / 33) : pX (ptsS s (s.length / 33)) i = plF (idsS s (s.length / 33)) i ∧ pY (ptsS s (s.length / 33)) i = vS (shV s i) := by
  obtain ⟨e1, e2⟩ := ptsS_x hs h (Nat.le_refl _)
  unfold pX pY plF
  rw [e1, e2, vS_sN (plN_lt _), idsS_get s h]
  exact ⟨rfl, rfl⟩
theorem pts_div {s : List Int} (hs : okS s = true) : (ptsS s (s.length / 33)).length / 64 = s.length / 33 := by rw [ptsS_len hs _ (Nat.le_refl _)]; omega
theorem pts_dups {s : List Int} (hs : okS s = true) (h : idsN (idsS s (s.length / 33)) = 0) : dupsP (ptsS s (s.length / 33)) = false := by
  have hi := ids_ok h
  cases hq : dupsP (ptsS s (s.length / 33)) with
  | false => rfl
  | true =>
    obtain ⟨a, b, h1, _, h3, h4⟩ := dupAll_iff.1 hq
    rw [pts_div hs, Nat.zero_add] at h3
    unfold keyP at h4
    have h4 := sN_inj1 (pX_lt _ _) (pX_lt _ _) h4
    rw [(pts_x hs (show a < _ by omega)).1, (pts_x hs h3).1] at h4
    exact absurd h4 (hi.pl a b h1 (by rw [idsS_len]; exact h3))
noncomputable def P33 (s : List Int) : List Int := ptsS s (s.length / 33)
def ids33 (s : List Int) : List Int := idsS s (s.length / 33)
noncomputable def zS : List Int := sN 0
theorem zS_eq : List.replicate 32 (0 : Int) = zS := b_zero'
theorem vS_z : vS (List.replicate 32 (0 : Int)) = 0 := by rw [b_zero']; exact vS_sN ell_pos
theorem okB_z : okB (List.replicate 32 (0 : Int)) = true := by rw [b_zero']; exact okB_sN 0

theorem valG_congr {X X' Y Y' : Nat → Nat} {v n : Nat} (h : ∀ j, j < n → X j = X' j) (h' : ∀ j, j < n → Y j = Y' j) : ∀ i, i ≤ n → valG X Y v n i = valG X' Y' v n i
  | 0, _ => rfl
  | i + 1, hi => by
    unfold valG
    rw [valG_congr h h' i (by omega), basG_congr h (show i < n by omega), h' i (by omega)]
noncomputable def I25 : (R : Type) → List DV → (List DV → Option R) → Option R := fun _ ds k => match ds with
  | [.lst (.mix c) 33 s, .v (.one (.ints .u8 32 x))] => match cksEq c ck43 with
    | true => bif okS s && okB x then (bif decide (idsN (ids33 s) = 0) then k [.v (.one (.ints .u8 32 (sN (valG (pX (P33 s)) (pY (P33 s)) (vS x) (s.length / 33) (s.length / 33))))), .v (.one (.int .i64 0))] else k [.v (.one (.ints .u8 32 zS)), .v (.one (.int .i64 (idsN (ids33 s))))]) else none
    | false => none
  | _ => none
theorem c25 : Contract Try.prog 25 { sig := S25, impl := I25 } := by
  refine Contract.refine fun R ds k r h => ?_
  unfold I25 at h
  split at h
  · rename_i c s x
    refine ⟨_, f25_contract 0 GT5_ok, ?_⟩
    split at h
    · rename_i hl
      have hl := cksEq_iff.1 hl
      subst hl
      cases hc2 : okS s && okB x with
      | false => rw [hc2] at h; cases h
      | true =>
        rw [hc2, cond_true] at h
        rw [Bool.and_eq_true] at hc2
        have hc := hc2.1
        obtain ⟨b1, b2, b3⟩ := okS_n hc
        show call (E25 0) S25 23 B25 R25 [DV.lst (RK.mix ck43) 33 s, .v (.one (.ints .u8 32 x))] k = some r
        rw [f25_raw_eq]
        unfold f25_raw
        rw [hc, cond_true, idsS_len, Nat.ble_eq_true_of_le (show s.length / 33 ≤ 1073741824 by omega), cond_true]
        by_cases h2 : idsN (idsS s (s.length / 33)) = 0
        · have h2' : idsN (ids33 s) = 0 := h2
          have hi := ids_ok h2
          rw [decide_eq_true h2', cond_true] at h
          have hn := idsS_len s (s.length / 33)
          have hle := hi.le
          rw [h2, show ((0 : Int) != 0) = false from rfl, cond_false, ptsS_ok hc (Nat.le_refl _) (by omega), hc2.2, pts_dups hc h2, pts_div hc, Nat.ble_eq_true_of_le (show s.length / 33 ≤ 30000 by omega)]
          exact h
        · have h2' : ¬ idsN (ids33 s) = 0 := h2
          rw [decide_eq_false h2', cond_false] at h
          rw [show (idsN (idsS s (s.length / 33)) != 0) = true by simpa using h2, cond_true, zS_eq]
          exact h
    · cases h
  · cases h

theorem pl_same {ids : List Int} (h : idsN ids = 0) : sameX (arrN (plF ids) ids.length) = false := by
  have hi := ids_ok h
  cases hq : sameX (arrN (plF ids) ids.length) with
  | false => rfl
  | true =>
    obtain ⟨a, b, h1, _, h3, h4⟩ := dupAll_iff.1 hq
    rw [arr_div, Nat.zero_add] at h3
    rw [numF_arr (plF_lt ids) (show a < _ by omega), numF_arr (plF_lt ids) h3] at h4
    exact absurd (sN_inj1 (plF_lt ids a) (plF_lt ids b) h4) (hi.pl a b h1 h3)
theorem bas_pl {ids : List Int} (v : Nat) : arrN (basG (numF (arrN (plF ids) ids.length)) v ids.length) ids.length = arrN (basG (plF ids) v ids.length) ids.length :=
  arr_congr fun i hi => basG_congr (fun j hj => numF_arr (plF_lt ids) hj) hi
noncomputable def I27 : (R : Type) → List DV → (List DV → Option R) → Option R := fun _ ds k => match ds with
  | [.lst (.one .i64) 1 ids] => bif Nat.ble ids.length 1073741823 then (bif decide (idsN ids = 0) then k [.lst (.one .u8) 32 (arrN (basG (plF ids) 0 ids.length) ids.length), .v (.one (.int .i64 0))] else k [.lst (.one .u8) 32 [], .v (.one (.int .i64 (idsN ids)))]) else none
  | _ => none
theorem c27 : Contract Try.prog 27 { sig := S27, impl := I27 } := by
  refine Contract.refine fun R ds k r h => ?_
  unfold I27 at h
  split at h
  · rename_i ids
    refine ⟨_, f27_contract 0 GT4_ok, ?_⟩
    cases hc : Nat.ble ids.length 1073741823 with
    | false => rw [hc] at h; cases h
    | true =>
      rw [hc, cond_true] at h
      have hb := Nat.le_of_ble_eq_true hc
      rw [f27_raw_eq]
      unfold f27_raw
      rw [Nat.ble_eq_true_of_le (show ids.length ≤ 1073741824 by omega), cond_true]
      by_cases h2 : idsN ids = 0
      · have hi := ids_ok h2
        have hle := hi.le
        rw [decide_eq_true h2, cond_true] at h
        rw [h2, show ((0 : Int) != 0) = false from rfl, cond_false, Nat.ble_eq_true_of_le (show ids.length ≤ 33554432 by omega), cond_true, arr_okF (by omega), okB_z, arr_div, Nat.ble_eq_true_of_le (show ids.length ≤ 30000 by omega), pl_same h2, vS_z, bas_pl]
        exact h
      · rw [decide_eq_false h2, cond_false] at h
        rw [show (idsN ids != 0) = true by simpa using h2, cond_true]
        exact h
  · exact (Option.some_ne_none _ h.symm).elim
noncomputable def I29 : (R : Type) → List DV → (List DV → Option R) → Option R := fun _ ds k => match ds with
  | [.lst (.one .i64) 1 ids, .v (.one (.int .i64 d)), .v (.one (.ints .u8 32 x))] => bif Nat.ble ids.length 1073741823 && okB x then (bif decide (idsN ids = 0) then (bif decide (idxE ids d ids.length 0 < 0) then k [.v (.one (.ints .u8 32 zS)), .v (.one (.int .i64 92))] else k [.v (.one (.ints .u8 32 (sN (basG (plF ids) (vS x) ids.length (idxE ids d ids.length 0).toNat)))), .v (.one (.int .i64 0))])
      else k [.v (.one (.ints .u8 32 zS)), .v (.one (.int .i64 (idsN ids)))]) else none
  | _ => none
theorem idxE_rng (xs : List Int) (x : Int) : ∀ j i : Nat, idxE xs x j i = -1 ∨ ((i : Int) ≤ idxE xs x j i ∧ idxE xs x j i < ((i + j : Nat) : Int))
  | 0, i => .inl rfl
  | j + 1, i => by
    unfold idxE
    cases x == xs.getD i 0 with
    | true => right; rw [cond_true]; omega
    | false =>
      rw [cond_false]
      rcases idxE_rng xs x j (i + 1) with h | h
      · exact .inl h
      · right; omega
theorem c29 : Contract Try.prog 29 { sig := S29, impl := I29 } := by
  refine Contract.refine fun R ds k r h => ?_
  unfold I29 at h
  split at h
  · rename_i ids d x
    refine ⟨_, f29_contract 0 GT4_ok, ?_⟩
    cases hc : Nat.ble ids.length 1073741823 && okB x with
    | false => rw [hc] at h; cases h
    | true =>
      rw [hc, cond_true] at h
      rw [Bool.and_eq_true] at hc
      have hb := Nat.le_of_ble_eq_true hc.1
      rw [f29_raw_eq]
      unfold f29_raw
      rw [Nat.ble_eq_true_of_le (show ids.length ≤ 1073741824 by omega), cond_true]
      by_cases h2 : idsN ids = 0
      · have hi := ids_ok h2
        have hle := hi.le
        rw [decide_eq_true h2, cond_true] at h
        rw [h2, show ((0 : Int) != 0) = false from rfl, cond_false, hc.1, cond_true]
        cases h3 : decide (idxE ids d ids.length 0 < 0) with
        | true => rw [h3] at h; rw [cond_true, zS_eq]; exact h
        | false =>
          rw [h3, cond_false] at h
          have h3 := of_decide_eq_false h3
          have hrng : (0 : Int) ≤ idxE ids d ids.length 0 ∧ idxE ids d ids.length 0 < (ids.length : Int) := by
            rcases idxE_rng ids d ids.length 0 with e | e
            · omega
            · omega
          obtain ⟨m, hm⟩ : ∃ m : Nat, idxE ids d ids.length 0 = (m : Int) := ⟨(idxE ids d ids.length 0).toNat, by omega⟩
          rw [hm] at hrng h ⊢
          rw [Int.toNat_natCast] at h
          rw [cond_false, Nat.ble_eq_true_of_le (show ids.length ≤ 33554432 by omega), cond_true, arr_okF (by omega), hc.2, arr_div, Nat.ble_eq_true_of_le (show ids.length ≤ 30000 by omega), pl_same h2, bas_pl, arr_rows, ge0, ltT (show m < ids.length by omega), toN, arr_el _ (show m < ids.length by omega)]
          exact h
      · rw [decide_eq_false h2, cond_false] at h
        rw [show (idsN ids != 0) = true by simpa using h2, cond_true, zS_eq]
        exact h
  · exact (Option.some_ne_none _ h.symm).elim
end Go.Proofs.Ytogcijgklnfjjaa

namespace Go.Proofs.Ytogcijgklnfjjaa
open Go Go.Eng
set_option maxRecDepth 100000
set_option linter.unusedVariables false

end Go.Proofs.Ytogcijgklnfjjaa

namespace Go.Proofs.Ytogcijgklnfjjaa
open Go Go.Eng
set_option maxRecDepth 100000
set_option linter.unusedVariables false

end Go.Proofs.Ytogcijgklnfjjaa

