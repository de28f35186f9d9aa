/- ShamirThroughs: for any points whose data stay within 1,048,576: Through answers as the document, and the points that were handed in stand as they stood. -/
import Derived.Test.YtogcijgklnfjjaaShamirThroughsUptoSaidT5
import Derived.WalkKit
import Derived.ProofKit
import Derived.JoinedCond
set_option linter.unusedVariables false
set_option linter.unusedSimpArgs false

/- Scalars that the kernel reckons with: the same contracts, in numbers. -/
namespace Go.Proofs.Ytogcijgklnfjjaa
open Go Go.Eng
set_option maxRecDepth 100000

def elC : Nat := 7237005577332262213973186563042994240857116359379907606001950938285454250989
theorem ell_elC : ell = elC := ell_def
def sC (v : Nat) : List Int := nats (digs 256 32 v)
theorem sN_sC (v : Nat) : sN v = sC v := sN_def v
def vC (x : List Int) : Nat := numB x % elC
theorem vS_vC (x : List Int) : vS x = vC x := by rw [vS_def, ell_elC]; rfl
def pwC : Nat → Nat → Nat → Nat
  | 0, _, _ => 1
  | n + 1, b, e => bif Nat.beq (e % 2) 1 then b * pwC n (b * b % elC) (e / 2) % elC else pwC n (b * b % elC) (e / 2)
theorem pwC_eq : ∀ (n b e : Nat), e < 2 ^ n → pwC n b e % elC = b ^ e % elC
  | 0, b, e, h => by
    have : e = 0 := by simp at h; exact h
    subst this; rfl
  | n + 1, b, e, h => by
    have ih := pwC_eq n (b * b % elC) (e / 2) (by rw [Nat.pow_succ] at h; omega)
    have e1 : (b * b % elC) ^ (e / 2) % elC = b ^ (2 * (e / 2)) % elC := by
      rw [← Nat.pow_mod, ← Nat.pow_two, ← Nat.pow_mul]
    unfold pwC
    have h2 := Nat.mod_two_eq_zero_or_one e
    cases hb : Nat.beq (e % 2) 1 with
    | true =>
      have h3 := Nat.eq_of_beq_eq_true hb
      rw [cond_true, Nat.mod_mod, Nat.mul_mod, ih, e1, ← Nat.mul_mod]
      have : e = 2 * (e / 2) + 1 := by omega
      rw [show b * b ^ (2 * (e / 2)) = b ^ (2 * (e / 2) + 1) by rw [Nat.pow_succ, Nat.mul_comm], ← this]
    | false =>
      have h3 : e % 2 ≠ 1 := fun q => by rw [q] at hb; cases hb
      rw [cond_false, ih, e1]
      have : e = 2 * (e / 2) := by omega
      rw [← this]
def inC (a : Nat) : Nat := pwC 256 a 7237005577332262213973186563042994240857116359379907606001950938285454250987 % elC
theorem invN_inC (a : Nat) : invN a = inC a := by
  rw [invN_def, powN_def, ell_elC]
  exact (pwC_eq 256 a _ (by decide +kernel)).symm

def adC (a b : Nat) : Nat := (a + b) % elC
def ngC (a : Nat) : Nat := (elC - a) % elC
def mlC (a b : Nat) : Nat := a * b % elC
theorem addN_adC (a b : Nat) : addN a b = adC a b := by rw [addN_def, ell_elC]; rfl
theorem negN_ngC (a : Nat) : negN a = ngC a := by rw [negN_def, ell_elC]; rfl
theorem mulN_mlC (a b : Nat) : mulN a b = mlC a b := by rw [mulN_def, ell_elC]; rfl
theorem difN_C (a b : Nat) : difN a b = adC a (ngC b) := by unfold difN; rw [addN_adC, negN_ngC]

def C30 : (R : Type) → List DV → (List DV → Option R) → Option R := fun _ ds k => match ds with
  | [.v (.one (.ints .u8 32 x)), .v (.one (.ints .u8 32 y))] => bif okB x && okB y then k [.v (.one (.ints .u8 32 (sC (adC (vC x) (vC y)))))] else none
  | _ => none
def C32 : (R : Type) → List DV → (List DV → Option R) → Option R := fun _ ds k => match ds with
  | [.v (.one (.ints .u8 32 x)), .v (.one (.ints .u8 32 y))] => bif okB x && okB y then k [.v (.one (.ints .u8 32 (sC (adC (vC x) (ngC (vC y))))))] else none
  | _ => none
def C33 : (R : Type) → List DV → (List DV → Option R) → Option R := fun _ ds k => match ds with
  | [.v (.one (.ints .u8 32 x)), .v (.one (.ints .u8 32 y))] => bif okB x && okB y then k [.v (.one (.ints .u8 32 (sC (mlC (vC x) (vC y)))))] else none
  | _ => none
def C42 : (R : Type) → List DV → (List DV → Option R) → Option R := fun _ ds k => match ds with
  | [.v (.one (.ints .u8 32 x)), .v (.one (.ints .u8 32 y)), .v (.one (.ints .u8 32 z))] => bif okB x && okB y && okB z then k [.v (.one (.ints .u8 32 (sC (adC (mlC (vC x) (vC y)) (vC z)))))] else none
  | _ => none
def C71 : (R : Type) → List DV → (List DV → Option R) → Option R := fun _ ds k => match ds with
  | [.v (.one (.ints .u8 32 x))] => bif okB x then k [.v (.one (.ints .u8 32 (sC (ngC (vC x)))))] else none
  | _ => none
def C88 : (R : Type) → List DV → (List DV → Option R) → Option R := fun _ ds k => match ds with
  | [.v (.one (.ints .u8 32 x))] => bif okB x then k [.v (.one (.bool (Nat.beq (vC x) 0)))] else none
  | _ => none
def C31 : (R : Type) → List DV → (List DV → Option R) → Option R := fun _ ds k => match ds with
  | [.v (.one (.ints .u8 32 x))] => bif okB x then (bif Nat.beq (vC x) 0 then k [.v (.one (.ints .u8 32 (List.replicate 32 0))), .v (.one (.int .i64 9))] else k [.v (.one (.ints .u8 32 (sC (inC (vC x))))), .v (.one (.int .i64 0))]) else none
  | _ => none
def C40 : (R : Type) → List DV → (List DV → Option R) → Option R := fun _ ds k => match ds with
  | [.v (.one (.int .i64 x))] => k [.v (.one (.ints .u8 32 (sC (IntKind.u64.wrap x).toNat)))]
  | _ => none

theorem beq_dec (a : Nat) : Nat.beq a 0 = decide (a = 0) := by cases a <;> rfl
theorem cC30 : Contract Try.prog 30 { sig := S30, impl := C30 } := by
  refine Contract.refine fun R ds k r h => ⟨_, c30, ?_⟩
  unfold C30 at h
  unfold I30
  split at h
  · simp only [sN_sC, addN_adC, vS_vC]; exact h
  · cases h
theorem cC32 : Contract Try.prog 32 { sig := S32, impl := C32 } := by
  refine Contract.refine fun R ds k r h => ⟨_, c32, ?_⟩
  unfold C32 at h
  unfold I32
  split at h
  · simp only [sN_sC, difN_C, vS_vC]; exact h
  · cases h
theorem cC33 : Contract Try.prog 33 { sig := S33, impl := C33 } := by
  refine Contract.refine fun R ds k r h => ⟨_, c33, ?_⟩
  unfold C33 at h
  unfold I33
  split at h
  · simp only [sN_sC, mulN_mlC, vS_vC]; exact h
  · cases h
theorem cC42 : Contract Try.prog 42 { sig := S42, impl := C42 } := by
  refine Contract.refine fun R ds k r h => ⟨_, c42, ?_⟩
  unfold C42 at h
  unfold I42
  split at h
  · simp only [sN_sC, mulN_mlC, addN_adC, vS_vC]; exact h
  · cases h
theorem cC71 : Contract Try.prog 71 { sig := S71, impl := C71 } := by
  refine Contract.refine fun R ds k r h => ⟨_, c71, ?_⟩
  unfold C71 at h
  unfold I71
  split at h
  · simp only [sN_sC, negN_ngC, vS_vC]; exact h
  · cases h
theorem cC88 : Contract Try.prog 88 { sig := S88, impl := C88 } := by
  refine Contract.refine fun R ds k r h => ⟨_, c88, ?_⟩
  unfold C88 at h
  unfold I88
  split at h
  · simp only [vS_vC, ← beq_dec]; exact h
  · cases h
theorem cC31 : Contract Try.prog 31 { sig := S31, impl := C31 } := by
  refine Contract.refine fun R ds k r h => ⟨_, c31, ?_⟩
  unfold C31 at h
  unfold I31
  split at h
  · simp only [sN_sC, invN_inC, vS_vC, ← beq_dec]; exact h
  · cases h
theorem cC40 : Contract Try.prog 40 { sig := S40, impl := C40 } := by
  refine Contract.refine fun R ds k r h => ⟨_, c40, ?_⟩
  unfold C40 at h
  unfold I40
  split at h
  · simp only [sN_sC, plN]; exact h
  · cases h

def hzC (x : List Int) : Nat → Nat → Bool
  | 0, _ => false
  | j + 1, i => bif Nat.beq (vC (elF x i)) 0 then true else hzC x j (i + 1)
theorem hzC_eq (x : List Int) : ∀ j i, (fz x j i).isSome = hzC x j i
  | 0, _ => rfl
  | j + 1, i => by
    unfold fz hzC
    rw [vS_vC, beq_dec]
    by_cases h : vC (elF x i) = 0
    · rw [if_pos h, decide_eq_true h]; rfl
    · rw [if_neg h, decide_eq_false h]; exact hzC_eq x j (i + 1)
def C77 : (R : Type) → List DV → (List DV → Option R) → Option R := fun _ ds k => match ds with
  | [.lst (.one .u8) 32 x] => bif okF x && !(hzC x (x.length / 32) 0) then k [.lst (.one .u8) 32 (headG (fun i => sC (inC (vC (elF x i)))) (x.length / 32)), .v (.one (.int .i64 0)), .v (.one (.int .i64 0))] else none
  | _ => none
theorem cC77 : Contract Try.prog 77 { sig := S77, impl := C77 } := by
  refine Contract.refine fun R ds k r h => ⟨_, c77b, ?_⟩
  unfold C77 at h
  unfold I77b
  split at h
  · rename_i x
    cases hc : okF x && !(hzC x (x.length / 32) 0) with
    | false => rw [hc] at h; cases h
    | true =>
      rw [hc, cond_true] at h
      rw [Bool.and_eq_true, Bool.not_eq_true'] at hc
      have e : hasZ x = false := by unfold hasZ; rw [hzC_eq]; exact hc.2
      have e2 : invS x = headG (fun i => sC (inC (vC (elF x i)))) (x.length / 32) := by
        unfold invS; simp only [sN_sC, invN_inC, vS_vC]
      show (bif okF x then (bif hasZ x then _ else _) else none) = some r
      rw [hc.1, e, e2]; exact h
  · cases h
def dtC (x y : List Int) : Nat → Nat
  | 0 => 0
  | i + 1 => adC (dtC x y i) (mlC (vC (elF x i)) (vC (elF y i)))
theorem dotF_dtC (x y : List Int) : ∀ i, dotF x y i = dtC x y i
  | 0 => rfl
  | i + 1 => by unfold dotF dtC; rw [addN_adC, mulN_mlC, vS_vC, vS_vC, dotF_dtC x y i]
def C76 : (R : Type) → List DV → (List DV → Option R) → Option R := fun _ ds k => match ds with
  | [.lst (.one .u8) 32 x, .lst (.one .u8) 32 y] => bif okF x && okF y then (bif Nat.beq (x.length / 32) (y.length / 32) then k [.v (.one (.ints .u8 32 (sC (dtC x y (x.length / 32))))), .v (.one (.int .i64 0))] else none) else none
  | _ => none
theorem cC76 : Contract Try.prog 76 { sig := S76, impl := C76 } := by
  refine Contract.refine fun R ds k r h => ⟨_, c76, ?_⟩
  unfold C76 at h
  unfold I76
  split at h
  · rename_i x y
    cases hc : okF x && okF y with
    | false => rw [hc] at h; cases h
    | true =>
      rw [hc, cond_true] at h
      cases he : Nat.beq (x.length / 32) (y.length / 32) with
      | false => rw [he] at h; cases h
      | true =>
        rw [he, cond_true] at h
        simp only [hc, he, cond_true, dotF_dtC, sN_sC]; exact h
  · cases h
def GC : Ctx := [(76, { sig := S76, impl := C76 }), (77, { sig := S77, impl := C77 }), (30, { sig := S30, impl := C30 }), (31, { sig := S31, impl := C31 }), (32, { sig := S32, impl := C32 }), (33, { sig := S33, impl := C33 }), (40, { sig := S40, impl := C40 }), (42, { sig := S42, impl := C42 }), (71, { sig := S71, impl := C71 }), (88, { sig := S88, impl := C88 })]
theorem GC_ok : CtxOk Try.prog GC := ctxOk_cons ok76 rfl cC76 (ctxOk_cons ok77 rfl cC77 (ctxOk_cons ok30 rfl cC30 (ctxOk_cons ok31 rfl cC31 (ctxOk_cons ok32 rfl cC32 (ctxOk_cons ok33 rfl cC33 (ctxOk_cons ok40 rfl cC40 (ctxOk_cons ok42 rfl cC42 (ctxOk_cons ok71 rfl cC71 (ctxOk_cons ok88 rfl cC88 ctxOk_nil)))))))))
end Go.Proofs.Ytogcijgklnfjjaa

/- Functions run whole. MADE BY PROGRAM (wip/tools/al.py). -/
namespace Go.Proofs.Ytogcijgklnfjjaa
open Go Go.Eng
set_option maxRecDepth 100000

/-- rime/rimelaw07.num -/
noncomputable def AE12 : Env := { Θ := Th, Γ := GC, K := K12, ν := [], fuel := 64, lp := [] }
theorem al12 : Contract Try.prog 12 { sig := S12, impl := fun _ ds k => call AE12 S12 4 B12 R12 ds k } :=
  call_contract (E := AE12) thOk GC_ok mixed ok12.look ok12.body ok12.n ok12.rv ok12.name rfl (by decide) (loopsOk_of (l := []) (by kernel_rfl) trivial)
noncomputable def GA12 : Ctx := (12, { sig := S12, impl := fun _ ds k => call AE12 S12 4 B12 R12 ds k }) :: GC
theorem GA12_ok : CtxOk Try.prog GA12 := ctxOk_cons ok12 rfl al12 GC_ok

/-- rime/shamir.may -/
noncomputable def AE43 : Env := { Θ := Th, Γ := GA12, K := K43, ν := [], fuel := 64, lp := [] }
theorem al43 : Contract Try.prog 43 { sig := S43, impl := fun _ ds k => call AE43 S43 9 B43 R43 ds k } :=
  call_contract (E := AE43) thOk GA12_ok mixed ok43.look ok43.body ok43.n ok43.rv ok43.name rfl (by decide) (loopsOk_of (l := []) (by kernel_rfl) trivial)
noncomputable def GA43 : Ctx := (43, { sig := S43, impl := fun _ ds k => call AE43 S43 9 B43 R43 ds k }) :: GA12
theorem GA43_ok : CtxOk Try.prog GA43 := ctxOk_cons ok43 rfl al43 GA12_ok

/-- rime/shamir.threshold -/
noncomputable def AE70 : Env := { Θ := Th, Γ := GA43, K := K70, ν := [], fuel := 64, lp := [] }
theorem al70 : Contract Try.prog 70 { sig := S70, impl := fun _ ds k => call AE70 S70 9 B70 R70 ds k } :=
  call_contract (E := AE70) thOk GA43_ok mixed ok70.look ok70.body ok70.n ok70.rv ok70.name rfl (by decide) (loopsOk_of (l := []) (by kernel_rfl) trivial)
noncomputable def GA70 : Ctx := (70, { sig := S70, impl := fun _ ds k => call AE70 S70 9 B70 R70 ds k }) :: GA43
theorem GA70_ok : CtxOk Try.prog GA70 := ctxOk_cons ok70 rfl al70 GA43_ok

/-- cmp.isNaN[int] -/
noncomputable def AE108 : Env := { Θ := Th, Γ := GA70, K := K108, ν := [], fuel := 64, lp := [] }
theorem al108 : Contract Try.prog 108 { sig := S108, impl := fun _ ds k => call AE108 S108 6 B108 R108 ds k } :=
  call_contract (E := AE108) thOk GA70_ok mixed ok108.look ok108.body ok108.n ok108.rv ok108.name rfl (by decide) (loopsOk_of (l := []) (by kernel_rfl) trivial)
noncomputable def GA108 : Ctx := (108, { sig := S108, impl := fun _ ds k => call AE108 S108 6 B108 R108 ds k }) :: GA70
theorem GA108_ok : CtxOk Try.prog GA108 := ctxOk_cons ok108 rfl al108 GA70_ok

/-- cmp.Less[int] -/
noncomputable def AE97 : Env := { Θ := Th, Γ := GA108, K := K97, ν := [], fuel := 64, lp := [] }
theorem al97 : Contract Try.prog 97 { sig := S97, impl := fun _ ds k => call AE97 S97 17 B97 R97 ds k } :=
  call_contract (E := AE97) thOk GA108_ok mixed ok97.look ok97.body ok97.n ok97.rv ok97.name rfl (by decide) (loopsOk_of (l := []) (by kernel_rfl) trivial)
noncomputable def GA97 : Ctx := (97, { sig := S97, impl := fun _ ds k => call AE97 S97 17 B97 R97 ds k }) :: GA108
theorem GA97_ok : CtxOk Try.prog GA97 := ctxOk_cons ok97 rfl al97 GA108_ok

/-- slices.insertionSortOrdered[int] -/
noncomputable def AE91 : Env := { Θ := Th, Γ := GA97, K := K91, ν := [(0, ⟨[], []⟩), (2, ⟨[], []⟩)], fuel := 64, lp := [] }
theorem al91 : Contract Try.prog 91 { sig := { ps := [], rs := [] }, impl := fun _ ds k => callN AE91 3 49 B91 R91 ds k, kind := .inl 3 } :=
  inl_contract (E := AE91) thOk GA97_ok mixed ok91 (loopsOk_of (l := [(0, B91_0), (2, B91_2)]) (by kernel_rfl) (allOk_skip rfl (allOk_skip rfl trivial)))
noncomputable def GA91 : Ctx := (91, { sig := { ps := [], rs := [] }, impl := fun _ ds k => callN AE91 3 49 B91 R91 ds k, kind := .inl 3 }) :: GA97
theorem GA91_ok : CtxOk Try.prog GA91 := ctxOk_cons ok91 rfl al91 GA97_ok

/-- math/bits.Len64 -/
noncomputable def AE101 : Env := { Θ := Th, Γ := GA91, K := K101, ν := [], fuel := 64, lp := [] }
theorem al101 : Contract Try.prog 101 { sig := S101, impl := fun _ ds k => call AE101 S101 25 B101 R101 ds k } :=
  call_contract (E := AE101) thOk GA91_ok mixed ok101.look ok101.body ok101.n ok101.rv ok101.name rfl (by decide) (loopsOk_of (l := []) (by kernel_rfl) trivial)
noncomputable def GA101 : Ctx := (101, { sig := S101, impl := fun _ ds k => call AE101 S101 25 B101 R101 ds k }) :: GA91
theorem GA101_ok : CtxOk Try.prog GA101 := ctxOk_cons ok101 rfl al101 GA91_ok

/-- math/bits.Len -/
noncomputable def AE75 : Env := { Θ := Th, Γ := GA101, K := K75, ν := [], fuel := 64, lp := [] }
theorem al75 : Contract Try.prog 75 { sig := S75, impl := fun _ ds k => call AE75 S75 8 B75 R75 ds k } :=
  call_contract (E := AE75) thOk GA101_ok mixed ok75.look ok75.body ok75.n ok75.rv ok75.name rfl (by decide) (loopsOk_of (l := []) (by kernel_rfl) trivial)
noncomputable def GA75 : Ctx := (75, { sig := S75, impl := fun _ ds k => call AE75 S75 8 B75 R75 ds k }) :: GA101
theorem GA75_ok : CtxOk Try.prog GA75 := ctxOk_cons ok75 rfl al75 GA101_ok

/-- slices.pdqsortOrdered[int] -/
noncomputable def AE74 : Env := { Θ := Th, Γ := GA75, K := K74, ν := [(0, ⟨[], []⟩)], fuel := 64, lp := [] }
theorem al74 : Contract Try.prog 74 { sig := { ps := [], rs := [] }, impl := fun _ ds k => callN AE74 4 134 B74 R74 ds k, kind := .inl 4 } :=
  inl_contract (E := AE74) thOk GA75_ok mixed ok74 (loopsOk_of (l := [(0, B74_0)]) (by kernel_rfl) (allOk_skip rfl trivial))
noncomputable def GA74 : Ctx := (74, { sig := { ps := [], rs := [] }, impl := fun _ ds k => callN AE74 4 134 B74 R74 ds k, kind := .inl 4 }) :: GA75
theorem GA74_ok : CtxOk Try.prog GA74 := ctxOk_cons ok74 rfl al74 GA75_ok

/-- slices.Sort[[]int,int] -/
noncomputable def AE46 : Env := { Θ := Th, Γ := GA74, K := K46, ν := [], fuel := 64, lp := [] }
theorem al46 : Contract Try.prog 46 { sig := { ps := [], rs := [] }, impl := fun _ ds k => callN AE46 1 11 B46 R46 ds k, kind := .inl 1 } :=
  inl_contract (E := AE46) thOk GA74_ok mixed ok46 (loopsOk_of (l := []) (by kernel_rfl) trivial)
noncomputable def GA46 : Ctx := (46, { sig := { ps := [], rs := [] }, impl := fun _ ds k => callN AE46 1 11 B46 R46 ds k, kind := .inl 1 }) :: GA74
theorem GA46_ok : CtxOk Try.prog GA46 := ctxOk_cons ok46 rfl al46 GA74_ok

/-- rime/shamir.listed -/
noncomputable def AE39 : Env := { Θ := Th, Γ := GA46, K := K39, ν := [(0, ⟨[], []⟩)], fuel := 64, lp := [] }
theorem al39 : Contract Try.prog 39 { sig := S39, impl := fun _ ds k => call AE39 S39 29 B39 R39 ds k } :=
  call_contract (E := AE39) thOk GA46_ok mixed ok39.look ok39.body ok39.n ok39.rv ok39.name rfl (by decide) (loopsOk_of (l := [(0, B39_0)]) (by kernel_rfl) (allOk_skip rfl trivial))
noncomputable def GA39 : Ctx := (39, { sig := S39, impl := fun _ ds k => call AE39 S39 29 B39 R39 ds k }) :: GA46
theorem GA39_ok : CtxOk Try.prog GA39 := ctxOk_cons ok39 rfl al39 GA46_ok

/-- rime/shamir.Eval -/
noncomputable def AE19 : Env := { Θ := Th, Γ := GA39, K := K19, ν := [(0, ⟨[], []⟩)], fuel := 64, lp := [] }
theorem al19 : Contract Try.prog 19 { sig := S19, impl := fun _ ds k => call AE19 S19 22 B19 R19 ds k } :=
  call_contract (E := AE19) thOk GA39_ok mixed ok19.look ok19.body ok19.n ok19.rv ok19.name rfl (by decide) (loopsOk_of (l := [(0, B19_0)]) (by kernel_rfl) (allOk_skip rfl trivial))
noncomputable def GA19 : Ctx := (19, { sig := S19, impl := fun _ ds k => call AE19 S19 22 B19 R19 ds k }) :: GA39
theorem GA19_ok : CtxOk Try.prog GA19 := ctxOk_cons ok19 rfl al19 GA39_ok

/-- rime/shamir.apart -/
noncomputable def AE49 : Env := { Θ := Th, Γ := GA19, K := K49, ν := [(0, ⟨[], []⟩)], fuel := 64, lp := [] }
theorem al49 : Contract Try.prog 49 { sig := S49, impl := fun _ ds k => call AE49 S49 31 B49 R49 ds k } :=
  call_contract (E := AE49) thOk GA19_ok mixed ok49.look ok49.body ok49.n ok49.rv ok49.name rfl (by decide) (loopsOk_of (l := [(0, B49_0)]) (by kernel_rfl) (allOk_skip rfl trivial))
noncomputable def GA49 : Ctx := (49, { sig := S49, impl := fun _ ds k => call AE49 S49 31 B49 R49 ds k }) :: GA19
theorem GA49_ok : CtxOk Try.prog GA49 := ctxOk_cons ok49 rfl al49 GA19_ok

/-- rime/shamir.Split -/
noncomputable def AE16 : Env := { Θ := Th, Γ := GA49, K := K16, ν := [(0, ⟨[], []⟩)], fuel := 64, lp := [] }
theorem al16 : Contract Try.prog 16 { sig := S16, impl := fun _ ds k => call AE16 S16 32 B16 R16 ds k } :=
  call_contract (E := AE16) thOk GA49_ok mixed ok16.look ok16.body ok16.n ok16.rv ok16.name rfl (by decide) (loopsOk_of (l := [(0, B16_0)]) (by kernel_rfl) (allOk_skip rfl trivial))
noncomputable def GA16 : Ctx := (16, { sig := S16, impl := fun _ ds k => call AE16 S16 32 B16 R16 ds k }) :: GA49
theorem GA16_ok : CtxOk Try.prog GA16 := ctxOk_cons ok16 rfl al16 GA49_ok

/-- rime/shamir.Through -/
noncomputable def AE9 : Env := { Θ := Th, Γ := GA16, K := K9, ν := [(0, ⟨[], []⟩), (2, ⟨[], []⟩), (4, ⟨[], []⟩), (6, ⟨[], []⟩), (8, ⟨[], []⟩), (10, ⟨[], []⟩)], fuel := 64, lp := [] }
theorem al9 : Contract Try.prog 9 { sig := S9, impl := fun _ ds k => call AE9 S9 161 B9 R9 ds k } :=
  call_contract (E := AE9) thOk GA16_ok mixed ok9.look ok9.body ok9.n ok9.rv ok9.name rfl (by decide) (loopsOk_of (l := [(0, B9_0), (2, B9_2), (4, B9_4), (6, B9_6), (8, B9_8), (10, B9_10)]) (by kernel_rfl) (allOk_skip rfl (allOk_skip rfl (allOk_skip rfl (allOk_skip rfl (allOk_skip rfl (allOk_skip rfl trivial)))))))
noncomputable def GA9 : Ctx := (9, { sig := S9, impl := fun _ ds k => call AE9 S9 161 B9 R9 ds k }) :: GA16
theorem GA9_ok : CtxOk Try.prog GA9 := ctxOk_cons ok9 rfl al9 GA16_ok

/-- rime/shamir.together -/
noncomputable def AE47 : Env := { Θ := Th, Γ := GA9, K := K47, ν := [(0, ⟨[], []⟩)], fuel := 64, lp := [] }
theorem al47 : Contract Try.prog 47 { sig := S47, impl := fun _ ds k => call AE47 S47 38 B47 R47 ds k } :=
  call_contract (E := AE47) thOk GA9_ok mixed ok47.look ok47.body ok47.n ok47.rv ok47.name rfl (by decide) (loopsOk_of (l := [(0, B47_0)]) (by kernel_rfl) (allOk_skip rfl trivial))
noncomputable def GA47 : Ctx := (47, { sig := S47, impl := fun _ ds k => call AE47 S47 38 B47 R47 ds k }) :: GA9
theorem GA47_ok : CtxOk Try.prog GA47 := ctxOk_cons ok47 rfl al47 GA9_ok

/-- rime/shamir.basis -/
noncomputable def AE50 : Env := { Θ := Th, Γ := GA47, K := K50, ν := [(0, ⟨[], []⟩), (2, ⟨[], []⟩), (4, ⟨[], []⟩)], fuel := 64, lp := [] }
theorem al50 : Contract Try.prog 50 { sig := S50, impl := fun _ ds k => call AE50 S50 95 B50 R50 ds k } :=
  call_contract (E := AE50) thOk GA47_ok mixed ok50.look ok50.body ok50.n ok50.rv ok50.name rfl (by decide) (loopsOk_of (l := [(0, B50_0), (2, B50_2), (4, B50_4)]) (by kernel_rfl) (allOk_skip rfl (allOk_skip rfl (allOk_skip rfl trivial))))
noncomputable def GA50 : Ctx := (50, { sig := S50, impl := fun _ ds k => call AE50 S50 95 B50 R50 ds k }) :: GA47
theorem GA50_ok : CtxOk Try.prog GA50 := ctxOk_cons ok50 rfl al50 GA47_ok

/-- rime/shamir.value -/
noncomputable def AE48 : Env := { Θ := Th, Γ := GA50, K := K48, ν := [(0, ⟨[], []⟩)], fuel := 64, lp := [] }
theorem al48 : Contract Try.prog 48 { sig := S48, impl := fun _ ds k => call AE48 S48 37 B48 R48 ds k } :=
  call_contract (E := AE48) thOk GA50_ok mixed ok48.look ok48.body ok48.n ok48.rv ok48.name rfl (by decide) (loopsOk_of (l := [(0, B48_0)]) (by kernel_rfl) (allOk_skip rfl trivial))
noncomputable def GA48 : Ctx := (48, { sig := S48, impl := fun _ ds k => call AE48 S48 37 B48 R48 ds k }) :: GA50
theorem GA48_ok : CtxOk Try.prog GA48 := ctxOk_cons ok48 rfl al48 GA50_ok

/-- rime/shamir.enough -/
noncomputable def AE44 : Env := { Θ := Th, Γ := GA48, K := K44, ν := [], fuel := 64, lp := [] }
theorem al44 : Contract Try.prog 44 { sig := S44, impl := fun _ ds k => call AE44 S44 28 B44 R44 ds k } :=
  call_contract (E := AE44) thOk GA48_ok mixed ok44.look ok44.body ok44.n ok44.rv ok44.name rfl (by decide) (loopsOk_of (l := []) (by kernel_rfl) trivial)
noncomputable def GA44 : Ctx := (44, { sig := S44, impl := fun _ ds k => call AE44 S44 28 B44 R44 ds k }) :: GA48
theorem GA44_ok : CtxOk Try.prog GA44 := ctxOk_cons ok44 rfl al44 GA48_ok

/-- rime/shamir.Recover -/
noncomputable def AE24 : Env := { Θ := Th, Γ := GA44, K := K24, ν := [], fuel := 64, lp := [] }
theorem al24 : Contract Try.prog 24 { sig := S24, impl := fun _ ds k => call AE24 S24 29 B24 R24 ds k } :=
  call_contract (E := AE24) thOk GA44_ok mixed ok24.look ok24.body ok24.n ok24.rv ok24.name rfl (by decide) (loopsOk_of (l := []) (by kernel_rfl) trivial)
noncomputable def GA24 : Ctx := (24, { sig := S24, impl := fun _ ds k => call AE24 S24 29 B24 R24 ds k }) :: GA44
theorem GA24_ok : CtxOk Try.prog GA24 := ctxOk_cons ok24 rfl al24 GA44_ok

/-- rime/shamir.reduce -/
noncomputable def AE89 : Env := { Θ := Th, Γ := GA24, K := K89, ν := [(0, ⟨[], []⟩), (2, ⟨[], []⟩), (4, ⟨[], []⟩)], fuel := 64, lp := [] }
theorem al89 : Contract Try.prog 89 { sig := { ps := [], rs := [] }, impl := fun _ ds k => callN AE89 3 95 B89 R89 ds k, kind := .inl 3 } :=
  inl_contract (E := AE89) thOk GA24_ok mixed ok89 (loopsOk_of (l := [(0, B89_0), (2, B89_2), (4, B89_4)]) (by kernel_rfl) (allOk_skip rfl (allOk_skip rfl (allOk_skip rfl trivial))))
noncomputable def GA89 : Ctx := (89, { sig := { ps := [], rs := [] }, impl := fun _ ds k => callN AE89 3 95 B89 R89 ds k, kind := .inl 3 }) :: GA24
theorem GA89_ok : CtxOk Try.prog GA89 := ctxOk_cons ok89 rfl al89 GA24_ok

/-- rime/shamir.solve -/
noncomputable def AE72 : Env := { Θ := Th, Γ := GA89, K := K72, ν := [(0, ⟨[], []⟩), (2, ⟨[], []⟩), (4, ⟨[], []⟩), (6, ⟨[], []⟩)], fuel := 64, lp := [] }
theorem al72 : Contract Try.prog 72 { sig := { ps := [], rs := [] }, impl := fun _ ds k => callN AE72 2 100 B72 R72 ds k, kind := .inl 2 } :=
  inl_contract (E := AE72) thOk GA89_ok mixed ok72 (loopsOk_of (l := [(0, B72_0), (2, B72_2), (4, B72_4), (6, B72_6)]) (by kernel_rfl) (allOk_skip rfl (allOk_skip rfl (allOk_skip rfl (allOk_skip rfl trivial)))))
noncomputable def GA72 : Ctx := (72, { sig := { ps := [], rs := [] }, impl := fun _ ds k => callN AE72 2 100 B72 R72 ds k, kind := .inl 2 }) :: GA89
theorem GA72_ok : CtxOk Try.prog GA72 := ctxOk_cons ok72 rfl al72 GA89_ok

/-- slices.Clone[[]rime/api.Scalar,rime/api.Scalar] -/
noncomputable def AE90 : Env := { Θ := Th, Γ := GA72, K := K90, ν := [], fuel := 64, lp := [] }
theorem al90 : Contract Try.prog 90 { sig := S90, impl := fun _ ds k => call AE90 S90 8 B90 R90 ds k } :=
  call_contract (E := AE90) thOk GA72_ok mixed ok90.look ok90.body ok90.n ok90.rv ok90.name rfl (by decide) (loopsOk_of (l := []) (by kernel_rfl) trivial)
noncomputable def GA90 : Ctx := (90, { sig := S90, impl := fun _ ds k => call AE90 S90 8 B90 R90 ds k }) :: GA72
theorem GA90_ok : CtxOk Try.prog GA90 := ctxOk_cons ok90 rfl al90 GA72_ok

/-- rime/shamir.divided -/
noncomputable def AE73 : Env := { Θ := Th, Γ := GA90, K := K73, ν := [(0, ⟨[], []⟩), (2, ⟨[], []⟩), (4, ⟨[], []⟩)], fuel := 64, lp := [] }
theorem al73 : Contract Try.prog 73 { sig := S73, impl := fun _ ds k => call AE73 S73 84 B73 R73 ds k } :=
  call_contract (E := AE73) thOk GA90_ok mixed ok73.look ok73.body ok73.n ok73.rv ok73.name rfl (by decide) (loopsOk_of (l := [(0, B73_0), (2, B73_2), (4, B73_4)]) (by kernel_rfl) (allOk_skip rfl (allOk_skip rfl (allOk_skip rfl trivial))))
noncomputable def GA73 : Ctx := (73, { sig := S73, impl := fun _ ds k => call AE73 S73 84 B73 R73 ds k }) :: GA90
theorem GA73_ok : CtxOk Try.prog GA73 := ctxOk_cons ok73 rfl al73 GA90_ok

/-- rime/shamir.located -/
noncomputable def AE45 : Env := { Θ := Th, Γ := GA73, K := K45, ν := [(0, ⟨[], []⟩), (2, ⟨[], []⟩)], fuel := 64, lp := [] }
theorem al45 : Contract Try.prog 45 { sig := S45, impl := fun _ ds k => call AE45 S45 106 B45 R45 ds k } :=
  call_contract (E := AE45) thOk GA73_ok mixed ok45.look ok45.body ok45.n ok45.rv ok45.name rfl (by decide) (loopsOk_of (l := [(0, B45_0), (2, B45_2)]) (by kernel_rfl) (allOk_skip rfl (allOk_skip rfl trivial)))
noncomputable def GA45 : Ctx := (45, { sig := S45, impl := fun _ ds k => call AE45 S45 106 B45 R45 ds k }) :: GA73
theorem GA45_ok : CtxOk Try.prog GA45 := ctxOk_cons ok45 rfl al45 GA73_ok

/-- rime/shamir.Correct -/
noncomputable def AE22 : Env := { Θ := Th, Γ := GA45, K := K22, ν := [(0, ⟨[], []⟩)], fuel := 64, lp := [] }
theorem al22 : Contract Try.prog 22 { sig := S22, impl := fun _ ds k => call AE22 S22 72 B22 R22 ds k } :=
  call_contract (E := AE22) thOk GA45_ok mixed ok22.look ok22.body ok22.n ok22.rv ok22.name rfl (by decide) (loopsOk_of (l := [(0, B22_0)]) (by kernel_rfl) (allOk_skip rfl trivial))
noncomputable def GA22 : Ctx := (22, { sig := S22, impl := fun _ ds k => call AE22 S22 72 B22 R22 ds k }) :: GA45
theorem GA22_ok : CtxOk Try.prog GA22 := ctxOk_cons ok22 rfl al22 GA45_ok

/-- rime/rimelaw07.alive -/
noncomputable def AE13 : Env := { Θ := Th, Γ := GA22, K := K13, ν := [], fuel := 64, lp := [] }
theorem al13 : Contract Try.prog 13 { sig := S13, impl := fun _ ds k => call AE13 S13 88 B13 R13 ds k } :=
  call_contract (E := AE13) thOk GA22_ok mixed ok13.look ok13.body ok13.n ok13.rv ok13.name rfl (by decide) (loopsOk_of (l := []) (by kernel_rfl) trivial)
noncomputable def GA13 : Ctx := (13, { sig := S13, impl := fun _ ds k => call AE13 S13 88 B13 R13 ds k }) :: GA22
theorem GA13_ok : CtxOk Try.prog GA13 := ctxOk_cons ok13 rfl al13 GA22_ok

end Go.Proofs.Ytogcijgklnfjjaa

/- alive answers true. -/
namespace Go.Proofs.Ytogcijgklnfjjaa
open Go Go.Eng
set_option maxRecDepth 1000000

theorem alive_eq {R : Type} (k : List DV → Option R) : call AE13 S13 88 B13 R13 [] k = k [.v (.one (.bool true))] := by kernel_rfl
def I13 : (R : Type) → List DV → (List DV → Option R) → Option R := fun _ ds k => match ds with
  | [] => k [.v (.one (.bool true))]
  | _ => none
theorem c13 : Contract Try.prog 13 { sig := S13, impl := I13 } := by
  refine Contract.refine fun R ds k r h => ⟨_, al13, ?_⟩
  unfold I13 at h
  split at h
  · rw [alive_eq]; exact h
  · cases h
end Go.Proofs.Ytogcijgklnfjjaa

/- ShamirThroughs: what it reaches. -/
namespace Go.Proofs.Ytogcijgklnfjjaa
open Go Go.Eng
set_option maxRecDepth 100000
noncomputable def GL3 : Ctx := (9, { sig := S9, impl := I9 }) :: (10, { sig := S10, impl := I10 }) :: (11, { sig := S11, impl := I11 }) :: (12, { sig := S12, impl := I12 }) :: (13, { sig := S13, impl := I13 }) :: []
theorem GL3_ok : CtxOk Try.prog GL3 := ctxOk_cons ok9 rfl c9 (ctxOk_cons ok10 rfl c10 (ctxOk_cons ok11 rfl c11 (ctxOk_cons ok12 rfl c12 (ctxOk_cons ok13 rfl c13 ctxOk_nil))))
def start3 (n : Nat) (p : List Int) : AS := { n := n, lo := 0, tmps := [(0, va (.own 0))], items := [(0, .view (.mix ck32) 64 p)] }
end Go.Proofs.Ytogcijgklnfjjaa

/- What rime/rimelaw07.ShamirThroughs comes to. MADE BY PROGRAM (wip/tools/mkfn.py, EngGen.lean). -/
namespace Go.Proofs.Ytogcijgklnfjjaa
open Go Go.Eng
set_option maxRecDepth 100000
set_option linter.unusedVariables false

def f3_0_sh : Shp := { n := 48, lo := 0, slots := [(0, .one (.fix (At.own 0))), (3, .one (.fix (At.own 10))), (4, .one (.fix (At.own 13))), (5, .one (.int IntKind.i64)), (6, .one (.fix (At.own 18))), (7, .one (.int IntKind.i64)), (8, .one (.int IntKind.i64))], items := [(0, .view (RK.mix ck32) 64), (10, .row (RK.mix ck32) 64), (13, .row (RK.one IntKind.u8) 32), (18, .row (RK.one IntKind.u8) 32)] }
def f3_0_ex1 : Shp := { n := 48, lo := 0, slots := [(2, .one (.bool)), (35, .one (.bool)), (24, .one (.bool)), (0, .one (.fix (At.own 0))), (3, .one (.fix (At.own 10))), (4, .one (.fix (At.own 13))), (5, .one (.int IntKind.i64)), (6, .one (.fix (At.own 18))), (7, .one (.int IntKind.i64)), (8, .one (.int IntKind.i64))], items := [(0, .view (RK.mix ck32) 64), (10, .row (RK.mix ck32) 64), (13, .row (RK.one IntKind.u8) 32), (18, .row (RK.one IntKind.u8) 32)] }
def f3_0_ex2 : Shp := { n := 48, lo := 0, slots := [(24, .one (.bool)), (0, .one (.fix (At.own 0))), (3, .one (.fix (At.own 10))), (4, .one (.fix (At.own 13))), (5, .one (.int IntKind.i64)), (6, .one (.fix (At.own 18))), (7, .one (.int IntKind.i64)), (8, .one (.int IntKind.i64))], items := [(0, .view (RK.mix ck32) 64), (10, .row (RK.mix ck32) 64), (13, .row (RK.one IntKind.u8) 32), (18, .row (RK.one IntKind.u8) 32)] }
noncomputable def f3_0_st {R : Type} (N : Nat) (self : Int → Int → Int → List Int → List Int → List Int → List Int → Option R) (k1 : Bool → Bool → Bool → Int → Int → Int → List Int → List Int → List Int → List Int → Option R) (k2 : Bool → Int → Int → Int → List Int → List Int → List Int → List Int → Option R) (x1 : Int) (x2 : Int) (x3 : Int) (x4 : List Int) (x5 : List Int) (x6 : List Int) (x7 : List Int) : Option R :=
 bif Decidable.decide (x3 < nI (rowLen 64 x5)) then
 bif Decidable.decide (0 ≤ x3) && Decidable.decide (x3 < nI (rowLen 64 x5)) then
 bif Decidable.decide (0 ≤ x3) && Decidable.decide (x3 < nI (rowLen 64 x4)) then
 bif !(Decidable.decide (List.take 32 (List.drop (x3.toNat * 64 + 0) x5) = List.take 32 (List.drop (x3.toNat * 64 + 0) x4)) && (Decidable.decide (List.take 32 (List.drop (x3.toNat * 64 + (0 + 32)) x5) = List.take 32 (List.drop (x3.toNat * 64 + (0 + 32)) x4)) && Bool.true)) then k1 Bool.false (!(Decidable.decide (List.take 32 (List.drop (x3.toNat * 64 + 0) x5) = List.take 32 (List.drop (x3.toNat * 64 + 0) x4)) && (Decidable.decide (List.take 32 (List.drop (x3.toNat * 64 + (0 + 32)) x5) = List.take 32 (List.drop (x3.toNat * 64 + (0 + 32)) x4)) && Bool.true))) (Decidable.decide (x3 < nI (rowLen 64 x5))) x1 x2 x3 x4 x5 x6 x7
 else
 let v0 : Int := IntKind.i64.wrap (x3 + 1);
 self x1 x2 v0 x4 x5 x6 x7
 else Option.none
 else Option.none
else k2 (Decidable.decide (x3 < nI (rowLen 64 x5))) x1 x2 x3 x4 x5 x6 x7
noncomputable def f3_0_lp {R : Type} (N : Nat) (k1 : Bool → Bool → Bool → Int → Int → Int → List Int → List Int → List Int → List Int → Option R) (k2 : Bool → Int → Int → Int → List Int → List Int → List Int → List Int → Option R) : Nat → Int → Int → Int → List Int → List Int → List Int → List Int → Option R
 | 0, _, _, _, _, _, _, _ => none
 | n + 1, x1, x2, x3, x4, x5, x6, x7 => f3_0_st N (f3_0_lp N k1 k2 n) k1 k2 x1 x2 x3 x4 x5 x6 x7
noncomputable def f3_0_F (N : Nat) : (R : Type) → List Leaf → (X → AS → Option R) → Option R := fun _ ls K => match ls with
 | [.i x1, .i x2, .i x3, .l x4, .l x5, .l x6, .l x7] => f3_0_lp N (fun y1 y2 y3 y4 y5 y6 y7 y8 y9 y10 => K (X.ret) (fill f3_0_ex1 [.b y1, .b y2, .b y3, .i y4, .i y5, .i y6, .l y7, .l y8, .l y9, .l y10])) (fun y1 y2 y3 y4 y5 y6 y7 y8 => K (X.normal) (fill f3_0_ex2 [.b y1, .i y2, .i y3, .i y4, .l y5, .l y6, .l y7, .l y8])) N x1 x2 x3 x4 x5 x6 x7
 | _ => none
noncomputable def f3_raw {R : Type} (N : Nat) (p : List Int) (k : List DV → Option R) : Option R :=
 bif (rowLen 64 p * 64).ble big48 && (rowLen 64 p).ble big48 then
 bif okP p then
 bif badP p then
 bif okP p then
 bif badP p then
 f3_0_lp N (fun w0_1 w0_2 w0_3 w0_4 w0_5 w0_6 w0_7 w0_8 w0_9 w0_10 => k [DV.v (SV.one (At.bool w0_1))])
 (fun w1_1 w1_2 w1_3 w1_4 w1_5 w1_6 w1_7 w1_8 =>
 bif okF w1_7 && okF w1_8 then
 bif Decidable.decide (w1_7 = w1_8) then
 let v2 : Bool := bif Bool.true then w1_2 == w1_3 else Bool.false;
 bif v2 then
 let v3 : Bool := bif Bool.true then Bool.true else Bool.false;
 k [DV.v (SV.one (At.bool v3))]
 else k [DV.v (SV.one (At.bool Bool.false))]
 else k [DV.v (SV.one (At.bool Bool.false))]
 else Option.none)
 N 8 8 0 p p [] []
 else
 bif dupsP p then
 f3_0_lp N (fun w4_1 w4_2 w4_3 w4_4 w4_5 w4_6 w4_7 w4_8 w4_9 w4_10 => k [DV.v (SV.one (At.bool w4_1))])
 (fun w5_1 w5_2 w5_3 w5_4 w5_5 w5_6 w5_7 w5_8 =>
 bif okF w5_7 && okF w5_8 then
 bif Decidable.decide (w5_7 = w5_8) then
 let v6 : Bool := bif Bool.true then w5_2 == w5_3 else Bool.false;
 bif v6 then
 let v7 : Bool := bif Bool.true then Bool.true else Bool.false;
 k [DV.v (SV.one (At.bool v7))]
 else k [DV.v (SV.one (At.bool Bool.false))]
 else k [DV.v (SV.one (At.bool Bool.false))]
 else Option.none)
 N 8 5 0 p p [] []
 else
 f3_0_lp N (fun w8_1 w8_2 w8_3 w8_4 w8_5 w8_6 w8_7 w8_8 w8_9 w8_10 => k [DV.v (SV.one (At.bool w8_1))])
 (fun w9_1 w9_2 w9_3 w9_4 w9_5 w9_6 w9_7 w9_8 =>
 bif okF w9_7 && okF w9_8 then
 bif Decidable.decide (w9_7 = w9_8) then
 let v10 : Bool := bif Bool.true then w9_2 == w9_3 else Bool.false;
 bif v10 then
 let v11 : Bool := bif Bool.true then Bool.true else Bool.false;
 k [DV.v (SV.one (At.bool v11))]
 else k [DV.v (SV.one (At.bool Bool.false))]
 else k [DV.v (SV.one (At.bool Bool.false))]
 else Option.none)
 N 8 0 0 p p [] (arrN (coefG (pX p) (pY p) (p.length / 64)) (p.length / 64))
 else Option.none
 else
 bif dupsP p then
 bif okP p then
 bif badP p then
 f3_0_lp N (fun w12_1 w12_2 w12_3 w12_4 w12_5 w12_6 w12_7 w12_8 w12_9 w12_10 => k [DV.v (SV.one (At.bool w12_1))])
 (fun w13_1 w13_2 w13_3 w13_4 w13_5 w13_6 w13_7 w13_8 =>
 bif okF w13_7 && okF w13_8 then
 bif Decidable.decide (w13_7 = w13_8) then
 let v14 : Bool := bif Bool.true then w13_2 == w13_3 else Bool.false;
 bif v14 then
 let v15 : Bool := bif Bool.true then Bool.true else Bool.false;
 k [DV.v (SV.one (At.bool v15))]
 else k [DV.v (SV.one (At.bool Bool.false))]
 else k [DV.v (SV.one (At.bool Bool.false))]
 else Option.none)
 N 5 8 0 p p [] []
 else
 bif dupsP p then
 f3_0_lp N (fun w16_1 w16_2 w16_3 w16_4 w16_5 w16_6 w16_7 w16_8 w16_9 w16_10 => k [DV.v (SV.one (At.bool w16_1))])
 (fun w17_1 w17_2 w17_3 w17_4 w17_5 w17_6 w17_7 w17_8 =>
 bif okF w17_7 && okF w17_8 then
 bif Decidable.decide (w17_7 = w17_8) then
 let v18 : Bool := bif Bool.true then w17_2 == w17_3 else Bool.false;
 bif v18 then
 let v19 : Bool := bif Bool.true then Bool.true else Bool.false;
 k [DV.v (SV.one (At.bool v19))]
 else k [DV.v (SV.one (At.bool Bool.false))]
 else k [DV.v (SV.one (At.bool Bool.false))]
 else Option.none)
 N 5 5 0 p p [] []
 else
 f3_0_lp N (fun w20_1 w20_2 w20_3 w20_4 w20_5 w20_6 w20_7 w20_8 w20_9 w20_10 => k [DV.v (SV.one (At.bool w20_1))])
 (fun w21_1 w21_2 w21_3 w21_4 w21_5 w21_6 w21_7 w21_8 =>
 bif okF w21_7 && okF w21_8 then
 bif Decidable.decide (w21_7 = w21_8) then
 let v22 : Bool := bif Bool.true then w21_2 == w21_3 else Bool.false;
 bif v22 then
 let v23 : Bool := bif Bool.true then Bool.true else Bool.false;
 k [DV.v (SV.one (At.bool v23))]
 else k [DV.v (SV.one (At.bool Bool.false))]
 else k [DV.v (SV.one (At.bool Bool.false))]
 else Option.none)
 N 5 0 0 p p [] (arrN (coefG (pX p) (pY p) (p.length / 64)) (p.length / 64))
 else Option.none
 else
 bif okP p then
 bif badP p then
 f3_0_lp N (fun w24_1 w24_2 w24_3 w24_4 w24_5 w24_6 w24_7 w24_8 w24_9 w24_10 => k [DV.v (SV.one (At.bool w24_1))])
 (fun w25_1 w25_2 w25_3 w25_4 w25_5 w25_6 w25_7 w25_8 =>
 bif okF w25_7 && okF w25_8 then
 bif Decidable.decide (w25_7 = w25_8) then
 let v26 : Bool := bif Bool.true then w25_2 == w25_3 else Bool.false;
 bif v26 then
 let v27 : Bool := bif Bool.true then Bool.true else Bool.false;
 k [DV.v (SV.one (At.bool v27))]
 else k [DV.v (SV.one (At.bool Bool.false))]
 else k [DV.v (SV.one (At.bool Bool.false))]
 else Option.none)
 N 0 8 0 p p (arrN (newtG (pX p) (pY p) (p.length / 64)) (p.length / 64)) []
 else
 bif dupsP p then
 f3_0_lp N (fun w28_1 w28_2 w28_3 w28_4 w28_5 w28_6 w28_7 w28_8 w28_9 w28_10 => k [DV.v (SV.one (At.bool w28_1))])
 (fun w29_1 w29_2 w29_3 w29_4 w29_5 w29_6 w29_7 w29_8 =>
 bif okF w29_7 && okF w29_8 then
 bif Decidable.decide (w29_7 = w29_8) then
 let v30 : Bool := bif Bool.true then w29_2 == w29_3 else Bool.false;
 bif v30 then
 let v31 : Bool := bif Bool.true then Bool.true else Bool.false;
 k [DV.v (SV.one (At.bool v31))]
 else k [DV.v (SV.one (At.bool Bool.false))]
 else k [DV.v (SV.one (At.bool Bool.false))]
 else Option.none)
 N 0 5 0 p p (arrN (newtG (pX p) (pY p) (p.length / 64)) (p.length / 64)) []
 else
 f3_0_lp N (fun w32_1 w32_2 w32_3 w32_4 w32_5 w32_6 w32_7 w32_8 w32_9 w32_10 => k [DV.v (SV.one (At.bool w32_1))])
 (fun w33_1 w33_2 w33_3 w33_4 w33_5 w33_6 w33_7 w33_8 =>
 bif okF w33_7 && okF w33_8 then
 bif Decidable.decide (w33_7 = w33_8) then
 let v34 : Bool := bif Bool.true then w33_2 == w33_3 else Bool.false;
 bif v34 then
 let v35 : Bool := bif Bool.true then Bool.true else Bool.false;
 k [DV.v (SV.one (At.bool v35))]
 else k [DV.v (SV.one (At.bool Bool.false))]
 else k [DV.v (SV.one (At.bool Bool.false))]
 else Option.none)
 N 0 0 0 p p (arrN (newtG (pX p) (pY p) (p.length / 64)) (p.length / 64)) (arrN (coefG (pX p) (pY p) (p.length / 64)) (p.length / 64))
 else Option.none
 else Option.none
else Option.none


noncomputable def E3 (N : Nat) : Env := { Θ := Th, Γ := GL3, K := K3, ν := N3, fuel := 0, lp := [(0, mkL N3_0 f3_0_sh (f3_0_F N))] }

theorem f3_0_st_eq {R : Type} (N : Nat) (K : X → AS → Option R) (n : Nat) (x1 : Int) (x2 : Int) (x3 : Int) (x4 : List Int) (x5 : List Int) (x6 : List Int) (x7 : List Int) : roundsOf (E3 N) N3_0 0 B3_0 K (n + 1) (fill f3_0_sh [.i x1, .i x2, .i x3, .l x4, .l x5, .l x6, .l x7]) = f3_0_st N (fun x1 x2 x3 x4 x5 x6 x7 => roundsOf (E3 N) N3_0 0 B3_0 K n (fill f3_0_sh [.i x1, .i x2, .i x3, .l x4, .l x5, .l x6, .l x7])) (fun y1 y2 y3 y4 y5 y6 y7 y8 y9 y10 => K (X.ret) (fill f3_0_ex1 [.b y1, .b y2, .b y3, .i y4, .i y5, .i y6, .l y7, .l y8, .l y9, .l y10])) (fun y1 y2 y3 y4 y5 y6 y7 y8 => K (X.normal) (fill f3_0_ex2 [.b y1, .i y2, .i y3, .i y4, .l y5, .l y6, .l y7, .l y8])) x1 x2 x3 x4 x5 x6 x7 := by kernel_rfl
theorem f3_0_lp_eq {R : Type} (N : Nat) (K : X → AS → Option R) : ∀ (n : Nat) (x1 : Int) (x2 : Int) (x3 : Int) (x4 : List Int) (x5 : List Int) (x6 : List Int) (x7 : List Int), roundsOf (E3 N) N3_0 0 B3_0 K n (fill f3_0_sh [.i x1, .i x2, .i x3, .l x4, .l x5, .l x6, .l x7]) = f3_0_lp N (fun y1 y2 y3 y4 y5 y6 y7 y8 y9 y10 => K (X.ret) (fill f3_0_ex1 [.b y1, .b y2, .b y3, .i y4, .i y5, .i y6, .l y7, .l y8, .l y9, .l y10])) (fun y1 y2 y3 y4 y5 y6 y7 y8 => K (X.normal) (fill f3_0_ex2 [.b y1, .i y2, .i y3, .i y4, .l y5, .l y6, .l y7, .l y8])) n x1 x2 x3 x4 x5 x6 x7
  | 0, _, _, _, _, _, _, _ => rfl
  | n + 1, x1, x2, x3, x4, x5, x6, x7 => by
    rw [f3_0_st_eq, f3_0_lp, show (fun x1 x2 x3 x4 x5 x6 x7 => roundsOf (E3 N) N3_0 0 B3_0 K n (fill f3_0_sh [.i x1, .i x2, .i x3, .l x4, .l x5, .l x6, .l x7])) = f3_0_lp N (fun y1 y2 y3 y4 y5 y6 y7 y8 y9 y10 => K (X.ret) (fill f3_0_ex1 [.b y1, .b y2, .b y3, .i y4, .i y5, .i y6, .l y7, .l y8, .l y9, .l y10])) (fun y1 y2 y3 y4 y5 y6 y7 y8 => K (X.normal) (fill f3_0_ex2 [.b y1, .i y2, .i y3, .i y4, .l y5, .l y6, .l y7, .l y8])) n from by funext x1 x2 x3 x4 x5 x6 x7; exact f3_0_lp_eq N K n x1 x2 x3 x4 x5 x6 x7]
theorem f3_0_ok (N : Nat) (hlp : LoopsOk Try.prog (E3 N).lp B3_0) (hΓ : CtxOk Try.prog (E3 N).Γ) : LoopOk Try.prog (mkL N3_0 f3_0_sh (f3_0_F N)) 0 B3_0 := by
  refine loopOk_of (E := E3 N) thOk hΓ mixed hlp ?_
  intro R ls K r h
  unfold f3_0_F at h
  split at h
  · exact ⟨N, by rw [f3_0_lp_eq]; exact h⟩
  · cases h

theorem lok3_0 (N : Nat) (hΓ : CtxOk Try.prog GL3) : LoopOk Try.prog (mkL N3_0 f3_0_sh (f3_0_F N)) 0 B3_0 := f3_0_ok N (loopsOk_of (l := []) (by kernel_rfl) trivial) hΓ
theorem f3_loops (N : Nat) (hΓ : CtxOk Try.prog GL3) : LoopsOk Try.prog (E3 N).lp B3 := loopsOk_of (l := [(0, B3_0)]) (by kernel_rfl) (allOk_cons (L := mkL N3_0 f3_0_sh (f3_0_F N)) rfl (lok3_0 N hΓ) trivial)
theorem f3_raw_eq {R : Type} (N : Nat) (p : List Int) (k : List DV → Option R) : exec (E3 N) B3 (start3 48 p) (retK Th { ps := [], rs := [.val] } [] R3 k) = f3_raw N p k := by kernel_rfl
end Go.Proofs.Ytogcijgklnfjjaa

/- ShamirThroughs: what is compared is the same. -/
namespace Go.Proofs.Ytogcijgklnfjjaa
open Go Go.Eng
set_option maxRecDepth 100000
set_option linter.unusedVariables false

theorem f3_same {R : Type} {N : Nat} (k1 : Bool → Bool → Bool → Int → Int → Int → List Int → List Int → List Int → List Int → Option R) (k2 : Bool → Int → Int → Int → List Int → List Int → List Int → List Int → Option R) {a b : Int} {p l m : List Int} {n : Nat} (hn : p.length / 64 = n) (hb : n ≤ 2000000) :
    ∀ j i : Nat, i + j = n → ∀ fuel, j < fuel → f3_0_lp N k1 k2 fuel a b (i : Int) p p l m = k2 false a b (n : Int) p p l m := by
  intro j
  induction j with
  | zero =>
    intro i h fuel hf
    obtain ⟨f, rfl⟩ : ∃ f, fuel = f + 1 := ⟨fuel - 1, by omega⟩
    show f3_0_st N (f3_0_lp N _ _ f) _ _ _ _ _ _ _ _ _ = _
    unfold f3_0_st
    rw [rows64, hn, ltF (by omega), cond_false, show i = n by omega]
  | succ j ih =>
    intro i h fuel hf
    obtain ⟨f, rfl⟩ : ∃ f, fuel = f + 1 := ⟨fuel - 1, by omega⟩
    show f3_0_st N (f3_0_lp N _ _ f) _ _ _ _ _ _ _ _ _ = _
    unfold f3_0_st
    rw [rows64, hn, ltT (show i < n by omega), ge0, wAdd (by omega)]
    simp only [Bool.and_self, cond_true, decide_true, Bool.not_true, cond_false]
    exact ih (i + 1) (by omega) f (by omega)
theorem dups_ne {p : List Int} (h : dupsP p = false) : ∀ i j, i < j → j < p.length / 64 → pX p i ≠ pX p j := fun i j h1 h2 e => by
  have : dupsP p = true := dupAll_iff.2 ⟨i, j, h1, by omega, by omega, by unfold keyP; rw [e]⟩
  rw [h] at this; cases this
theorem f3_true {p : List Int} {n : Nat} (hl : p.length = n * 64) (hn : n ≤ 1048576) (hp : okP p = true) : f3_raw (n + 2) p some = some [.v (.one (.bool true))] := by
  have e0 : p.length / 64 = n := by omega
  have r0 : rowLen 64 p = n := e0
  have hle : (Nat.ble (n * 64) big48 && Nat.ble n big48) = true := by
    rw [Bool.and_eq_true, Nat.ble_eq, Nat.ble_eq]; unfold big48; omega
  have hnil : okF ([] : List Int) = true := by decide
  unfold f3_raw
  rw [r0, hle, hp]
  simp only [cond_true, cond_false]
  have go : ∀ {R : Type} (k1 : Bool → Bool → Bool → Int → Int → Int → List Int → List Int → List Int → List Int → Option R) (k2 : Bool → Int → Int → Int → List Int → List Int → List Int → List Int → Option R) (a b : Int) (l m : List Int), f3_0_lp (n + 2) k1 k2 (n + 2) a b 0 p p l m = k2 false a b (n : Int) p p l m :=
    fun k1 k2 a b l m => f3_same k1 k2 e0 (by omega) n 0 (by omega) (n + 2) (by omega)
  cases hb : badP p with
  | true =>
    simp only [cond_true]
    rw [go]
    simp only [hnil, Bool.and_self, cond_true, decide_true, beq_self_eq_true]
  | false =>
    simp only [cond_false]
    cases hd : dupsP p with
    | true =>
      simp only [cond_true]
      rw [go]
      simp only [hnil, Bool.and_self, cond_true, decide_true, beq_self_eq_true]
    | false =>
      simp only [cond_false]
      rw [go]
      have h1 : 1 ≤ n ∧ n ≤ 255 := by
        unfold badP at hb
        rw [Bool.or_eq_false_iff, e0] at hb
        have := of_decide_eq_false hb.1
        have := of_decide_eq_false hb.2
        omega
      have e1 : arrN (newtG (pX p) (pY p) n) n = arrN (coefG (pX p) (pY p) n) n := arr_congr (newt_coef (pX_lt p) (pY_lt p) h1.1 (fun i j h1 h2 => dups_ne hd i j h1 (by omega)))
      rw [e0, e1, arr_okF (by omega)]
      simp only [Bool.and_self, cond_true, decide_true, beq_self_eq_true]
end Go.Proofs.Ytogcijgklnfjjaa

/- ShamirThroughs: for any points whose data stay within 1,048,576: Through answers as the document, and the points that were handed in stand as they stood. -/
namespace Go.Proofs.Ytogcijgklnfjjaa
open Go Go.Eng Go.ChangeShapes Go.WideShapes Go.RowKit Go.ChangeAt
set_option maxRecDepth 100000

theorem contract3 (H : Type) (enc : TypeId × Value → H) (W : World) (base : Nat) (args : Array Value) (ds gs : List (DataW H)) (before : List MemPlace)
    (hval : ∀ (j : Nat) t v, Try.f3.params[j]? = some t → args[j]? = some v → Value.okWide Try.prog W .any base t v)
    (hW : DataW.Whole enc Try.prog Try.f3.params.toList Rows.shamirThroughsSpec.vars false W args.toList ds gs before) (hk : Rows.uptoSmall H (ds ++ gs) = true) :
    Calls Try.prog 3 args W fun e W' => ∃ v, e = .returned v ∧ Rows.shamirThroughsSpec.post enc Try.prog Try.f3 false true false false W args v W' := by
  have hW' := hW
  obtain ⟨p, q, hA, hV, rfl, hfz, hnd⟩ := hW
  obtain ⟨rfl, rfl⟩ := trodVars_none hV
  rw [Try.params3] at hA hval
  obtain ⟨v0, vs0, d0, ds0, p0, q0, hargs, rfl, rfl, h0, r0⟩ := trodAll_cons hA
  obtain ⟨rfl, rfl, rfl⟩ := trodAll_nil r0
  obtain rfl : args = #[v0] := by cases args; simp_all
  have hb := bulk_bound hk
  simp only [List.append_nil, Rows.uptoBulkAll, Nat.add_zero] at hb
  obtain ⟨A0, n0, c0, rfl⟩ := okWide_slice Try.underlying22 (hval 0 22 v0 rfl rfl)
  obtain ⟨f0, h0⟩ := h0
  obtain ⟨x0, len0, cap0, Ad0, loc0, o01, o02, l0, o04, o05, o06, w0, o08⟩ := open_viewM (l := ck32) (es := 64) Try.underlying22 (by omega) (elPt H enc) h0
  have b0 : len0 ≤ Rows.uptoBulk d0 := bulk_slice o08
  have hs : Sim W { blk := fun _ => False, loc := ({ loc := locOf [(0, loc0)], tot := fun _ => 0 } : Rho).loc, tot := ({ loc := locOf [(0, loc0)], tot := fun _ => 0 } : Rho).tot, sh := (start3 48 x0).S, out := ({ loc := locOf [(0, loc0)], tot := fun _ => 0 } : Rho).out } ({ loc := locOf [(0, loc0)], tot := fun _ => 0 } : Rho) (start3 48 x0) { tmps := #[.slice A0 n0 c0] ++ Array.replicate (48 - 1) undef, defers := [] } W := by
    refine sim_startD (s0 := start3 48 x0) (ρ := { loc := locOf [(0, loc0)], tot := fun _ => 0 }) (args := #[.slice A0 n0 c0]) (n := 48) (avs := [.s (.one (.own 0))]) rfl (by simp) rfl ?_ ?_ ?_ (fun b hb => hb.elim) ⟨(show RelAt ({ loc := locOf [(0, loc0)], tot := fun _ => 0 } : Rho) (start3 48 x0).S (.own 0) [Value.slice A0 n0 c0] from rel_own rfl o01 o02 l0 o05 (by omega) rfl), trivial⟩
    · simp [start3, Nodup', putNames]
    · intro j it hi
      simp only [start3, AS.I, findI_cons] at hi
      split at hi
      · rename_i hj; subst hj; injection hi with hi; subst hi
        exact ⟨rfl, ⟨by omega, rfl⟩, ⟨len0, l0⟩, o04⟩
      ·
        simp [findI] at hi
    · intro j p hp
      simp only [locOf] at hp
      split at hp
      · exact o06 p hp
      ·
        cases hp
  have he := f3_true l0 (by omega) (okP_row (by omega) l0 w0)
  rw [← f3_raw_eq] at he
  refine (law_calls thOk GL3_ok mixed ok3 (f3_loops _ GL3_ok) (fun _ => id) hs he).mono fun e W' ⟨h1, h2, h3, h4⟩ => ?_
  exact ⟨_, h1, post_of_law laidOut (by kernel_rfl) Try.underlying4 rfl (by rw [Try.params3]; intro t ht; simp only [List.mem_cons, List.not_mem_nil, or_false] at ht; subst ht <;> exact ⟨by kernel_rfl, by decide +kernel⟩) ⟨rfl, rfl, rfl⟩ hW' h2 h3 h4⟩

theorem lifted3 (os : Os) (started : os.Started) (H : Type) (enc : TypeId × Value → H) (F : Stop.Interp) :
    ReturnsInHanded {} Try.checked os 3 .any ((Rows.OpenSpec.upto Rows.shamirThroughsSpec).pre6 enc Try.prog Try.f3 Rows.shamirThroughsUptoRow.domain false) (((Rows.OpenSpec.upto Rows.shamirThroughsSpec).at F).post enc Try.prog Try.f3 false true false false) := by
  refine returnsInHanded_of_cond (C := Try.checked) (s := Rows.OpenSpec.upto Rows.shamirThroughsSpec) (k := Rows.uptoSmall) rfl own0 started (by kernel_rfl) Try.func3
    (OpenSpec.witness (enc := enc) (C := Try.checked) (s := Rows.OpenSpec.upto Rows.shamirThroughsSpec) (k := Rows.uptoSmall) rfl false ⟨#[], #[.slice none 0 0], []⟩ 8 (by kernel_rfl) (by kernel_rfl) (by kernel_rfl)
      (x := ([.nil], [], [])) (by kernel_rfl) rfl (by kernel_rfl)) ?_
  intro W base args ds gs before hval hW _ hk _
  exact contract3 H enc W base args ds gs before hval hW hk

theorem over3 : Rows.shamirThroughsUptoRow.holds Try.pinned (Rows.OpenSpec.upto Rows.shamirThroughsSpec) :=
  OpenClaim.holds_of_cond 3 Try.f3 rfl rfl rfl rfl rfl rfl rfl ⟨rfl, rfl, rfl, rfl, rfl⟩ rfl rfl rfl rfl rfl (by kernel_rfl) Try.func3 (by kernel_rfl)
    (of_decide_eq_true (by kernel_rfl)) (by unfold Func.isWrapper; first | (rw [if_pos (by decide +kernel)]; kernel_rfl) | (rw [if_neg (by decide +kernel)]; exact ⟨rfl, rfl⟩))
    (fun os started H enc _ F => lifted3 os started H enc F)

theorem shamirThroughs_holds : Rows.ShamirThroughsUptoSaid := over3
end Go.Proofs.Ytogcijgklnfjjaa

#print axioms Go.Proofs.Ytogcijgklnfjjaa.shamirThroughs_holds
